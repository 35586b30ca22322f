import PyProof.Rows.All
import Wide.All
import OpenK.AllK
import Wide.FinOn
import HandS.ForMost
import HandS.WordsExc
import HandS.TryOnly
import HandS.ExcOwn
import HandS.IsInst
import HandS.StrMore
import HandS.SortKw
import HandS.SortInts
import HandS.ListItems
import HandS.DictComp
import HandS.Defaults
import HandS.DictTup
import HandS.DictSubView
import HandS.Style
import HandS.Evl
import HandS.SortRule
import HandS.ExcIs
import HandS.ExcValue
import PySem.Challenge.RW_drawerdesk_k09_heavy
set_option Elab.async false
set_option linter.all false
set_option maxRecDepth 100000
set_option maxHeartbeats 4000000
/-! Rules of my own over the hand layer: the views of a dict whose keys are texts, and text times number. -/
namespace DK
open PySem PySem.Spec PyProof.Rows L2
section
variable {X : Cx}
/-- text times number -/
def rMulS : R2 := fun x y H Q => ∃ (z : Str) (n : Int), x = .str z ∧ y = .int n ∧ MulOk z n ∧ Q (.str (Txt.mul z n)) H
theorem op_mulS : OpR X (binaryOp .Mult) rMulS := by
  intro pins s σ H x y v u Q I rx ry h
  obtain ⟨z, n, rfl, rfl, ok, q⟩ := h
  obtain ⟨t, rfl⟩ := rx
  obtain ⟨t', rfl⟩ := ry
  exact SB.mul ok fun t'' k => ⟨.str _, H, I.tok k, ⟨t'', rfl⟩, q⟩

/-- the view d.values(), d.items() of a dict at d -/
def viewV (p d : Addr) : HO := .ext fun h => h.IsValuesView p d
def viewI (p d : Addr) : HO := .ext fun h => h.IsItemsView p d
theorem viewV_ok {P : Program} {w : World} {H : Hp} {h : Heap} {p d : Addr} (e : h.get? p = some { cls := .type "dict_values", data := .fields #[.ref d] }) : ObjOk P w H h p (viewV p d) := by
  refine ⟨⟨_, e, rfl, rfl⟩, ⟨_, e⟩, ?_⟩
  intro h1 h2 x k
  obtain ⟨o, ho, r⟩ := x
  exact ⟨o, k o ho, r⟩
theorem viewI_ok {P : Program} {w : World} {H : Hp} {h : Heap} {p d : Addr} (e : h.get? p = some { cls := .type "dict_items", data := .fields #[.ref d] }) : ObjOk P w H h p (viewI p d) := by
  refine ⟨⟨_, e, rfl, rfl⟩, ⟨_, e⟩, ?_⟩
  intro h1 h2 x k
  obtain ⟨o, ho, r⟩ := x
  exact ⟨o, k o ho, r⟩
def rVals : V → List V → Hp → VK → Prop := fun x xs H Q => ∃ (a : Addr) (kvs : List (Key × V)), x = .ref a ∧ xs = [] ∧ H a = some (.dK kvs) ∧ ∀ p, H p = none → Q (.ref p) (upd H p (viewV p a))
theorem mt_vals : MtR X "dict.values" rVals := by
  intro pins s σ H x xs v us Q I rx rxs h
  obtain ⟨a, kvs, rfl, rfl, ha, q⟩ := h
  cases rx
  cases rxs
  obtain ⟨z, lo, vs, rel, dd⟩ := dk_of I.hok ha
  refine call_meetsIn PySem.F.slot_dict_values dd.typeIs PySem.F.entry_dict_values (PySem.F.args_dict_values_1 _) (meets_dict_values (mixKind X.prog X.w) a lo) ⟨⟨vs, dd⟩, ?_⟩
  have hf : H s.heap.objs.size = none := I.hok.fresh (Nat.le_refl _)
  exact ⟨.ref s.heap.objs.size, upd H s.heap.objs.size (viewV s.heap.objs.size a), I.laid (t' := s.toks) (fun b u e => Heap.get?_push_of_some _ e) (Nat.le_refl _) (viewV_ok (Heap.get?_push_size _ rfl)), rfl, q _ hf⟩
def rItems : V → List V → Hp → VK → Prop := fun x xs H Q => ∃ (a : Addr) (kvs : List (Key × V)), x = .ref a ∧ xs = [] ∧ H a = some (.dK kvs) ∧ ∀ p, H p = none → Q (.ref p) (upd H p (viewI p a))
theorem mt_items : MtR X "dict.items" rItems := by
  intro pins s σ H x xs v us Q I rx rxs h
  obtain ⟨a, kvs, rfl, rfl, ha, q⟩ := h
  cases rx
  cases rxs
  obtain ⟨z, lo, vs, rel, o, es, ep, ho, hx, hdat, _⟩ := dk_of I.hok ha
  refine DT.callItems (es := es) (ep := ep) lo ⟨o, ho, hx, hdat⟩ ?_
  have hf : H s.heap.objs.size = none := I.hok.fresh (Nat.le_refl _)
  exact ⟨.ref s.heap.objs.size, upd H s.heap.objs.size (viewI s.heap.objs.size a), I.laid (t' := s.toks) (fun b u e => Heap.get?_push_of_some _ e) (Nat.le_refl _) (viewI_ok (Heap.get?_push_size _ rfl)), rfl, q _ hf⟩
/-- a view of the values: the source that the library's functions walk -/
theorem src_of {pins : List (Addr × Obj)} {σ : L2.St} {H : Hp} {s : Shared} {p a : Addr} {kvs : List (Key × V)} (I : Inv X pins σ H s) (hp : H p = some (viewV p a)) (ha : H a = some (.dK kvs)) :
    ∃ (vs : List (Key × Value)) (ep : Nat), KV kvs vs ∧ kvs.length ≤ sizeLine ∧ kvs.length = vs.length ∧ (s.heap.IsValuesView p a ∧ s.heap.DictAt (mixKind X.prog X.w) a vs ep) := by
  have view : s.heap.IsValuesView p a := (show ObjOk X.prog X.w H s.heap p (viewV p a) from I.hok p _ hp).1
  obtain ⟨z, lo, vs, rel, dd⟩ := dk_of I.hok ha
  obtain ⟨ep, hat⟩ := dd.dictAt
  exact ⟨vs, ep, rel, z, Paired.length rel, view, hat⟩
theorem kv_snd : ∀ {kvs : List (Key × V)} {vs : List (Key × Value)}, KV kvs vs → Vals (kvs.map (·.2)) (vs.map (·.2))
  | _, _, .nil => .nil
  | _, _, .cons r t => .cons r.2 (kv_snd t)
theorem items_vals {kvs : List (Key × V)} {vs : List (Key × Value)} {acc : List Value} (r : KV kvs vs) (hl : acc.length = vs.length) (h : ∀ (j : Nat) (v : Value), acc[j]? = some v → ∃ k, vs[j]? = some (k, v)) : acc = vs.map (·.2) := by
  refine List.ext_getElem? fun j => ?_
  rw [List.getElem?_map]
  cases e : acc[j]? with
  | none =>
    have hj : vs.length ≤ j := by rw [← hl]; exact List.getElem?_eq_none_iff.mp e
    rw [List.getElem?_eq_none_iff.mpr hj]
    rfl
  | some v =>
    obtain ⟨k, hk⟩ := h j v e
    rw [hk]
    rfl
/-- list(d.values()) -/
def rListV : List V → Hp → VK → Prop := fun xs H Q => ∃ (p a : Addr) (kvs : List (Key × V)), xs = [.ref p] ∧ H p = some (viewV p a) ∧ H a = some (.dK kvs) ∧ ∀ q, H q = none → Q (.ref q) (upd H q (.lst (kvs.map (·.2))))
theorem call_listV (hc : X.calm = true) : CallR X (.type "list") rListV := by
  intro pins s σ H xs us Q I r h
  obtain ⟨p, a, kvs, rfl, hp, ha, q⟩ := h
  obtain rfl := Vals.ref1 r
  obtain ⟨vs, ep, rel, z, hl, src⟩ := src_of I hp ha
  refine PySem.W.kdl_call (PySem.W.kdl_values (knd := mixKind X.prog X.w) (kvs := vs) (ep := ep)) (I.ok.hd hc) src (by rw [← hl]; exact z) fun h' tk acc c hk hS hacc => ?_
  have ea : acc.toList = vs.map (·.2) := items_vals rel (by rw [Array.length_toList]; exact hacc.1) fun j v e => hacc.2 j v (by rw [← Array.getElem?_toList]; exact e)
  refine ⟨.ref s.heap.objs.size, upd H s.heap.objs.size (.lst (kvs.map (·.2))), I.laid hk (Nat.le_refl _) (show ObjOk X.prog X.w _ _ _ (.lst (kvs.map (·.2))) from ⟨by rw [List.length_map]; exact z, acc.toList, c, by rw [ea]; exact kv_snd rel, by rw [Array.toArray_toList]; exact hS⟩), rfl, q _ (I.hok.fresh (Nat.le_refl _))⟩
end
end DK

set_option Elab.async false
set_option linter.all false
set_option maxRecDepth 100000
set_option maxHeartbeats 4000000
namespace DK
open PySem PySem.Spec PyProof.Rows L2
theorem pre_sum (ns : List Int) : ∀ j : Nat, PySem.preSum (fun i => ns.getD i 0) j = (ns.take j).sum
  | 0 => by simp [PySem.preSum]
  | j + 1 => by
    rw [PySem.preSum, pre_sum ns j]
    cases e : ns[j]? with
    | none =>
      have hj : ns.length ≤ j := List.getElem?_eq_none_iff.mp e
      rw [List.take_of_length_le hj, List.take_of_length_le (Nat.le_succ_of_le hj), List.getD_eq_getElem?_getD, e]
      simp
    | some z =>
      obtain ⟨hj, ez⟩ := List.getElem?_eq_some_iff.mp e
      rw [List.take_succ_eq_append_getElem hj, List.sum_append, List.getD_eq_getElem?_getD, e, ez]
      simp
section
variable {X : Cx} {pins : List (Addr × Obj)} {σ : L2.St} {H : Hp} {s : Shared}
/-- the i-th value of a walked view, whole numbers -/
theorem val_at {kvs : List (Key × V)} {vs : List (Key × Value)} {ns : List Int} (rel : KV kvs vs) (hns : kvs.map (·.2) = ns.map V.int) {i : Nat} {v : Value} (h : ∃ k, vs[i]? = some (k, v)) : ∃ t : Tok, v = Value.int (ns.getD i 0) t := by
  obtain ⟨k, hk⟩ := h
  have r := kv_snd rel
  have e2 : (vs.map (·.2))[i]? = some v := by rw [List.getElem?_map, hk]; rfl
  rw [hns] at r
  have hl : (ns.map V.int).length = (vs.map (·.2)).length := r.length
  have hi : i < ns.length := by
    have := (List.getElem?_eq_some_iff.mp e2).1
    rw [← hl, List.length_map] at this
    exact this
  have e1 : (ns.map V.int)[i]? = some (V.int ns[i]) := by rw [List.getElem?_map, List.getElem?_eq_getElem hi]; rfl
  obtain ⟨u, hu, ru⟩ := r.get e1
  rw [e2] at hu
  cases hu
  obtain ⟨t, et⟩ := ru
  refine ⟨t, ?_⟩
  rw [et, List.getD_eq_getElem?_getD, List.getElem?_eq_getElem hi]
  rfl
theorem len_at {kvs : List (Key × V)} {ns : List Int} (hns : kvs.map (·.2) = ns.map V.int) : kvs.length = ns.length := by
  have e := congrArg List.length hns
  rw [List.length_map, List.length_map] at e
  exact e
/-- sum(d.values()) -/
def rSumV : List V → Hp → VK → Prop := fun xs H Q => ∃ (p a : Addr) (kvs : List (Key × V)) (ns : List Int), xs = [.ref p] ∧ H p = some (viewV p a) ∧ H a = some (.dK kvs) ∧ kvs.map (·.2) = ns.map V.int ∧ Q (.int ns.sum) H
theorem cr_sumV (hc : X.calm = true) : CallR X (.builtin "sum") rSumV := by
  intro pins s σ H xs us Q I r h
  obtain ⟨p, a, kvs, ns, rfl, hp, ha, hns, q⟩ := h
  obtain rfl := Vals.ref1 r
  obtain ⟨vs, ep, rel, z, hl, src⟩ := src_of I hp ha
  have K := PySem.W.kdl_values (prog := X.prog) (w := X.w) (r := p) (d := a) (knd := mixKind X.prog X.w) (kvs := vs) (ep := ep)
  refine PySem.call_sum_walkAnyS ?_
  obtain ⟨oI, St, hit, W, st⟩ := K.iter X.A.in1 s (show X.A.in1.handled = none from I.ok.hd hc) src
  refine hit _ _ ⟨s.heap.objs.size, _, _, _, vs.length, _, _, fun i => ns.getD i 0, rfl, W.toS, st, fun b hb => ?_, fun i v hv => val_at rel hns hv, fun s' t' hm => ?_⟩
  · show b < (s.heap.push oI).objs.size
    rw [size_push']
    rcases List.mem_cons.mp hb with e | hb
    · rw [e]
      exact Nat.lt_succ_self _
    · rw [List.mem_singleton.mp hb]
      exact Nat.lt_succ_of_lt (K.there _ src).2
  · have hk : ∀ b o, s.heap.get? b = some o → s'.heap.get? b = some o := fun b o e =>
      hm.heap b o (fun hI => absurd (Heap.lt_size e) (by rw [List.mem_singleton.mp hI]; exact Nat.lt_irrefl _)) (Heap.get?_push_of_some _ e)
    rw [Moved.eq_with hm]
    have e : PySem.preSum (fun i => ns.getD i 0) vs.length = ns.sum := by
      rw [pre_sum, List.take_of_length_le (by rw [← hl, len_at hns]; exact Nat.le_refl _)]
    rw [e]
    exact ⟨.int ns.sum, H, I.kept hk, ⟨t', rfl⟩, q⟩
/-- min(d.values()) -/
def rMinV : List V → Hp → VK → Prop := fun xs H Q => ∃ (p a : Addr) (kvs : List (Key × V)) (ns : List Int), xs = [.ref p] ∧ H p = some (viewV p a) ∧ H a = some (.dK kvs) ∧ kvs.map (·.2) = ns.map V.int ∧ 0 < ns.length ∧ ∀ m, m ∈ ns → (∀ y, y ∈ ns → m ≤ y) → Q (.int m) H
theorem cr_minV (hc : X.calm = true) : CallR X (.builtin "min") rMinV := by
  intro pins s σ H xs us Q I r h
  obtain ⟨p, a, kvs, ns, rfl, hp, ha, hns, hne, q⟩ := h
  obtain rfl := Vals.ref1 r
  obtain ⟨vs, ep, rel, z, hl, src⟩ := src_of I hp ha
  have hln : vs.length = ns.length := by rw [← hl]; exact len_at hns
  have K := PySem.W.kdl_values (prog := X.prog) (w := X.w) (r := p) (d := a) (knd := mixKind X.prog X.w) (kvs := vs) (ep := ep)
  refine PySem.call_min_walk ?_
  obtain ⟨oI, St, hit, W, st⟩ := K.iter X.A.in1 s (show X.A.in1.handled = none from I.ok.hd hc) src
  refine hit _ _ ⟨s.heap.objs.size, _, _, vs.length, _, _, fun i j => decide (ns.getD i 0 < ns.getD j 0), rfl, W, st, fun b hb => ?_, by omega, CmpOf.ints_lt (fun i => ns.getD i 0) (fun i v hv => val_at rel hns hv), fun v h' tk hv' hk => ?_⟩
  · show b < (s.heap.push oI).objs.size
    rw [size_push']
    rcases List.mem_cons.mp hb with e | hb
    · rw [e]
      exact Nat.lt_succ_self _
    · rw [List.mem_singleton.mp hb]
      exact Nat.lt_succ_of_lt (K.there _ src).2
  · have hk2 : ∀ b o, s.heap.get? b = some o → h'.get? b = some o := fun b o e =>
      hk b o (fun hI => absurd (Heap.lt_size e) (by rw [List.mem_singleton.mp hI]; exact Nat.lt_irrefl _)) (Heap.get?_push_of_some _ e)
    obtain ⟨t, et⟩ := val_at rel hns hv'
    obtain ⟨m1, m2⟩ := PySem.argBest_lt (fun i => ns.getD i 0) (vs.length - 1)
    have hi : argBest (fun i j => decide (ns.getD i 0 < ns.getD j 0)) (vs.length - 1) < ns.length := by
      have m1' : argBest (fun i j => decide (ns.getD i 0 < ns.getD j 0)) (vs.length - 1) ≤ vs.length - 1 := m1
      omega
    generalize argBest (fun i j => decide (ns.getD i 0 < ns.getD j 0)) (vs.length - 1) = b at et m2 hi
    rw [et]
    refine ⟨.int (ns.getD b 0), H, I.kept hk2, ⟨t, rfl⟩, q _ ?_ fun y hy => ?_⟩
    · rw [List.getD_eq_getElem?_getD, List.getElem?_eq_getElem hi]
      exact List.getElem_mem hi
    · obtain ⟨j, hj⟩ := List.mem_iff_getElem?.mp hy
      have hjl : j < ns.length := (List.getElem?_eq_some_iff.mp hj).1
      have e := m2 j (by omega)
      have e2 : ns.getD j 0 = y := by rw [List.getD_eq_getElem?_getD, hj]; rfl
      rw [← e2]
      exact e
/-- what a source gives is collected; the collector's own list stands at the heap's end -/
theorem collect_src {prog : Program} {w : World} {A : Around} {E : Value → Shared → Prop} {s : Shared} {T : String} {r d : Addr} {n : Nat} {P : Nat → Value → Prop} {OK : Heap → Prop} {R : List Value → Shared → Prop}
    (K : PySem.W.KdlSrc prog w T r d n P OK) (hh : A.handled = none) (hok : OK s.heap) (hn : n ≤ sizeLine)
    (h : ∀ (h' : Heap) (tk : Nat) (acc : Array Value), (∀ b o, s.heap.get? b = some o → h'.get? b = some o) → s.heap.objs.size < h'.objs.size → ItemsOf P acc n → R acc.toList { s with heap := h', toks := tk }) :
    wpAny (model prog w) A (collect (.ref r)) R E s := by
  have lt := K.there _ hok
  unfold collect
  refine wpAny_bind (wpAny_runValue (codeAny_builtin entry_proto_collect' ?_))
  rw [Around.under_plainId PySem.F.plain_proto_collect _]
  show wpAny _ A.in1 (newList [] >>= fun l => again (.builtin "list.__iadd__" ⟨[l, .ref r], []⟩)) _ _ s
  refine wpAny_bind (wpAny_newObj_type ?_)
  refine wpAny_pure ⟨plainId_quiet PySem.F.plain_list_iadd _, codeAny_builtin entry_list_iadd' ?_⟩
  rw [Around.under_plainId PySem.F.plain_list_iadd _]
  have s1 : (s.heap.push { cls := .type "list", data := .seq ([] : List Value).toArray }).get? s.heap.objs.size = some { cls := .type "list", data := .seq #[] } := Heap.get?_push_size _ rfl
  show wpAny _ A.in1 (Builtin.List.listExtendWith (.ref s.heap.objs.size) (.ref r) (.ref s.heap.objs.size)) _ _ _
  have ext := PySem.W.kdl_extend (A := A) (s := { s with heap := s.heap.push { cls := .type "list", data := .seq ([] : List Value).toArray } })
    (R := fun (q : Result) (s' : Shared) => ∃ (h' : Heap) (tk : Nat) (acc' : Array Value) (c' : Nat), q = .ok (.ret (.ref s.heap.objs.size)) ∧ s' = { s with heap := h', toks := tk } ∧
      (∀ b o, s.heap.get? b = some o → h'.get? b = some o) ∧ h'.get? s.heap.objs.size = some { cls := .type "list", dict := none, data := .seq acc' c', slots := #[] } ∧ ItemsOf P acc' n)
    K hh (K.keep _ _ hok fun b _ o e => Heap.get?_push_of_some _ e) s.heap.objs.size (Nat.ne_of_gt lt.1) (Nat.ne_of_gt lt.2) (.ref s.heap.objs.size) 0 s1
    (fun h' tk acc' c' hk hS' hacc => ⟨h', tk, acc', c', rfl, rfl, fun b o e => hk b o (Nat.ne_of_lt (Heap.lt_size e)) (Heap.get?_push_of_some _ e), hS', hacc⟩) hn
  refine wpAny_mono ext (fun fin s' x => ?_) fun e s' x => ?_
  · cases fin with
    | done f =>
      obtain ⟨h', tk, acc', c', e, rfl, hk, hS', hacc⟩ := x
      cases e
      show wpAny _ A (load s.heap.objs.size >>= _) _ _ _
      exact wpAny_bind (wpAny_load hS' (wpAny_pure (h h' tk acc' hk (Heap.lt_size hS') hacc)))
    | again c1 =>
      refine ⟨x.1, codeAny_mono x.2 fun q s2 y => ?_⟩
      obtain ⟨h', tk, acc', c', rfl, rfl, hk, hS', hacc⟩ := y
      show wpAny _ A (load s.heap.objs.size >>= _) _ _ _
      exact wpAny_bind (wpAny_load hS' (wpAny_pure (h h' tk acc' hk (Heap.lt_size hS') hacc)))
  · obtain ⟨_, _, _, _, e', _⟩ := x
    cases e'
/-- sorted(d.values()), sorted(d.values(), reverse=b) -/
theorem sorted_view {b : Bool} {kw : List (Str × Value)} {p a : Addr} {kvs : List (Key × V)} {ns : List Int} {Q : VK} (hc : X.calm = true) (I : Inv X pins σ H s) (hp : H p = some (viewV p a)) (ha : H a = some (.dK kvs)) (hns : kvs.map (·.2) = ns.map V.int)
    (hk : ∀ a, Builtin.«list.sort» ⟨[.ref a], kw⟩ = Builtin.«list.sort» ⟨[.ref a], [(Str.ofString "reverse", .bool b)]⟩) (ha1 : argsOk "sorted" ⟨[.ref p], kw⟩) (ha2 : ∀ a, argsOk "list.sort" ⟨[a], kw⟩)
    (q : ∀ (ns' : List Int) (l : Addr), ns'.Perm ns → OrdB b ns' → H l = none → Q (.ref l) (upd H l (.lst (ns'.map V.int)))) : wpAny (model X.prog X.w) X.A (call (.builtin "sorted") [.ref p] kw) (EP X pins σ Q) X.xe s := by
  obtain ⟨vs, ep, rel, z, hl, src⟩ := src_of I hp ha
  have hln : vs.length = ns.length := by rw [← hl]; exact len_at hns
  refine call_function_entry_kw kind_sorted plain_sorted entry_sorted ha1 ?_
  unfold Builtin.«sorted»
  refine wpAny_bind (m := checkCount "sorted" 1 1 _) (wpAny_pure ?_)
  refine wpAny_bind (collect_src (A := X.A.in1) (PySem.W.kdl_values (knd := mixKind X.prog X.w) (kvs := vs) (ep := ep)) (show X.A.in1.handled = none from I.ok.hd hc) src (by rw [← hl]; exact z) fun h' tk acc hkp hlt hacc => ?_)
  have ea : acc.toList = vs.map (·.2) := items_vals rel (by rw [Array.length_toList]; exact hacc.1) fun j v e => hacc.2 j v (by rw [← Array.getElem?_toList]; exact e)
  have rv : Vals (ns.map V.int) acc.toList := by rw [ea, ← hns]; exact kv_snd rel
  have hi := rv.ints
  have hz : acc.toList.length ≤ sizeLine := by rw [ea, List.length_map, ← hl]; exact z
  refine wpAny_bind (wpAny_newList ?_ hz)
  have hoL : (h'.push { cls := .type "list", data := .seq acc.toList.toArray }).get? h'.objs.size = some (seqObj "list" acc.toList.toArray 0) := Heap.get?_push_size _ rfl
  refine wpAny_bind (wpAny_holding (wpAny_call_entry_kw slot_list_sort ⟨_, hoL, rfl⟩ entry_list_sort ?_ (ha2 _)))
  rw [hk]
  refine SrtR.list_sort_ordR SrtO.swo_int hoL hz (fun h2 => SrtO.ints_sortable hi h2) fun out h1 h2 => ⟨_, rfl, ?_⟩
  obtain ⟨ns', k1, k2, k3⟩ := SrtR.ints_outR hi h1 h2
  obtain ⟨eF, heF⟩ := PyProof.Rows.sortedHeap_at (vs := acc.toList) (out := if b = true then out.toArray.reverse else out.toArray) hoL
  have kF : ∀ (c : Addr) o, s.heap.get? c = some o → (sortedHeap (h'.push { cls := .type "list", data := .seq acc.toList.toArray }) h'.objs.size acc.toList (if b = true then out.toArray.reverse else out.toArray)).get? c = some o := fun c o e => by
    have lb : c < h'.objs.size := Heap.lt_size (hkp c o e)
    exact (PyProof.Rows.sortedHeap_old (Nat.ne_of_lt lb) (by rw [size_push']; exact Nat.lt_succ_of_lt lb)).trans (Heap.get?_push_of_some _ (hkp c o e))
  have hn0 : H h'.objs.size = none := I.hok.fresh (Nat.le_of_lt hlt)
  have hlen : (ns'.map V.int).length ≤ sizeLine := by
    rw [List.length_map, k2.length_eq, ← len_at hns]
    exact z
  have e0 : ((if b = true then out.toArray.reverse else out.toArray).toList).toArray = (if b = true then out.toArray.reverse else out.toArray) := by rw [Array.toArray_toList]
  refine wpAny_pure ⟨_, rfl, .ref h'.objs.size, upd H h'.objs.size (.lst (ns'.map V.int)), I.laid (t' := tk) kF (Nat.le_of_lt hlt) ⟨hlen, _, eF, vals_of_ints k1, by rw [e0]; exact heF⟩, rfl, q _ _ k2 k3 hn0⟩
/-- sorted(d.values()) -/
def rSortedV : List V → Hp → VK → Prop := fun xs H Q => ∃ (p a : Addr) (kvs : List (Key × V)) (ns : List Int), xs = [.ref p] ∧ H p = some (viewV p a) ∧ H a = some (.dK kvs) ∧ kvs.map (·.2) = ns.map V.int ∧
  ∀ (ns' : List Int) (l : Addr), ns'.Perm ns → ns'.Pairwise (· ≥ ·) → H l = none → Q (.ref l) (upd H l (.lst (ns'.map V.int)))
/-- sorted(d.values(), reverse=True) -/
def rSortedVR : List V → List V → Hp → VK → Prop := fun xs zs H Q => zs = [.bl true] ∧ rSortedV xs H Q
theorem cr_sortedVR (hc : X.calm = true) : CallRK X (.builtin "sorted") [Str.ofString "reverse"] rSortedVR := by
  intro pins s σ H xs zs us ws Q I r rz h
  obtain ⟨rfl, p, a, kvs, ns, rfl, hp, ha, hns, q⟩ := h
  obtain rfl := Vals.ref1 r
  obtain ⟨w1, rfl, e1⟩ := vals1 rz
  obtain rfl : w1 = Value.bool true := e1
  exact sorted_view (b := true) hc I hp ha hns (fun _ => rfl) (PyProof.Rows.args_sorted_rev _ _) (fun _ => PyProof.Rows.args_list_sort_rev _ _) q
def rSortedVU : List V → Hp → VK → Prop := fun xs H Q => ∃ (p a : Addr) (kvs : List (Key × V)) (ns : List Int), xs = [.ref p] ∧ H p = some (viewV p a) ∧ H a = some (.dK kvs) ∧ kvs.map (·.2) = ns.map V.int ∧
  ∀ (ns' : List Int) (l : Addr), ns'.Perm ns → ns'.Pairwise (· ≤ ·) → H l = none → Q (.ref l) (upd H l (.lst (ns'.map V.int)))
theorem cr_sortedV (hc : X.calm = true) : CallR X (.builtin "sorted") rSortedVU := by
  intro pins s σ H xs us Q I r h
  obtain ⟨p, a, kvs, ns, rfl, hp, ha, hns, q⟩ := h
  obtain rfl := Vals.ref1 r
  exact sorted_view (b := false) (kw := []) hc I hp ha hns (fun _ => rfl) (args_sorted1 _) (fun _ => PyProof.Rows.args_list_sort _) q
end
end DK

set_option Elab.async false
set_option linter.all false
set_option maxRecDepth 100000
set_option maxHeartbeats 4000000
namespace DK
open PySem PySem.Spec PyProof.Rows L2 PySem.W
/-! sorted(d.items()), the keys texts, the values whole numbers -/
abbrev CM := List (Str × Int)
def kvc (c : CM) : List (Key × V) := c.map fun e => (Sum.inr e.1, V.int e.2)
/-- x stands before y -/
def slt (x y : Str) : Bool := decide (x.cps.toList < y.cps.toList)
theorem slt_irr (x : Str) : slt x x = false := decide_eq_false (List.lt_irrefl _)
theorem slt_asym (x y : Str) (h : slt x y = true) : slt y x = false := by
  refine decide_eq_false fun h2 => ?_
  exact List.lt_irrefl _ (List.lt_trans (of_decide_eq_true h) h2)
theorem cps_inj {x y : Str} (h : x.cps.toList = y.cps.toList) : x = y := by
  cases x with
  | mk a =>
    cases y with
    | mk b =>
      congr 1
      exact Array.toList_inj.mp h
theorem slt_tot (x y : Str) (h1 : slt x y = false) (h2 : slt y x = false) : x = y := by
  have a := of_decide_eq_false h1
  have b := of_decide_eq_false h2
  exact cps_inj (List.le_antisymm (List.not_lt.mp b) (List.not_lt.mp a))
theorem slt_tr (x y z : Str) (h1 : slt y x = false) (h2 : slt z y = false) : slt z x = false := by
  have a := List.not_lt.mp (of_decide_eq_false h1)
  have b := List.not_lt.mp (of_decide_eq_false h2)
  exact decide_eq_false (List.not_lt.mpr (List.le_trans a b))
/-- the pair that is read off the heap -/
def rdP (h : Heap) (v : Value) : Str × Int := match v with
  | .ref b => (match h.get? b with
    | some o => (match o.data with
      | .seq xs _ => (match xs.toList with
        | [.str x _, .int n _] => (x, n)
        | _ => (Str.empty, 0))
      | _ => (Str.empty, 0))
    | none => (Str.empty, 0))
  | _ => (Str.empty, 0)
/-- at b stands the tuple of that text and that number -/
def PrAt (h : Heap) (b : Addr) (e : Str × Int) : Prop := ∃ t u, h.get? b = some { cls := .type "tuple", data := .seq #[.str e.1 t, .int e.2 u] }
theorem PrAt.rd {h : Heap} {b : Addr} {e : Str × Int} (x : PrAt h b e) : rdP h (.ref b) = e := by
  obtain ⟨t, u, g⟩ := x
  simp only [rdP, g]
section
variable {prog : Program} {w : World} {A : Around} {s : Shared}
theorem firsts_pr {h : Heap} : ∀ vs : List Value, (∀ v ∈ vs, ∃ b e, v = .ref b ∧ PrAt h b e) → ∃ fs : List Value, KatTups h vs fs ∧ fs.length = vs.length ∧ ∀ f ∈ fs, ∃ x t, f = Value.str x t
  | [], _ => ⟨[], KatTups.nil, rfl, fun f hf => by simp at hf⟩
  | v :: vs, x => by
    obtain ⟨fs, k, hl, hi⟩ := firsts_pr vs fun u hu => x u (List.mem_cons_of_mem _ hu)
    obtain ⟨b, e, rfl, t, u, g⟩ := x v (List.mem_cons_self ..)
    refine ⟨.str e.1 t :: fs, KatTups.cons g rfl rfl rfl k, by rw [List.length_cons, List.length_cons, hl], fun f hf => ?_⟩
    rcases List.mem_cons.mp hf with rfl | hf
    · exact ⟨e.1, t, rfl⟩
    · exact hi f hf
/-- such pairs, equal keys having equal values, may be sorted by their keys -/
theorem pr_sortable {a : Addr} {vs : List Value} {k : Value → Str × Int} (h2 : 2 ≤ vs.length) (hv : ∀ v ∈ vs, ∃ b, v = .ref b ∧ b ≠ a ∧ PrAt s.heap b (k v)) (hu : ∀ v ∈ vs, ∀ u ∈ vs, (k v).1 = (k u).1 → (k v).2 = (k u).2) :
    SrtO.SortableO prog w A s a vs fun v u => slt (k v).1 (k u).1 := by
  intro h' keep
  have hv' : ∀ v ∈ vs, ∃ b, v = .ref b ∧ PrAt h' b (k v) := fun v hm => by
    obtain ⟨b, e, ne, t, u, g⟩ := hv v hm
    exact ⟨b, e, t, u, keep b _ ne g⟩
  obtain ⟨fs, kt, hl, hi⟩ := firsts_pr vs fun v hm => by
    obtain ⟨b, e, p⟩ := hv' v hm
    exact ⟨b, k v, e, p⟩
  refine ⟨tuples' (Value.type "str" != Value.type "tuple"), fun Q E hq => ?_, ?_⟩
  · refine kat_kind (s := { s with heap := h' }) (T := Value.type "str") kt (by omega) (fun f hf => ?_) (by rfl) hq
    obtain ⟨x, t, rfl⟩ := hi f hf
    exact PySem.W.Looks.of_pure rfl
  · have hb : (Value.type "str" != Value.type "tuple") = true := by decide
    rw [hb]
    intro p q hp hq
    obtain ⟨b1, e1, t1, u1, g1⟩ := hv' _ hp
    obtain ⟨b2, e2, t2, u2, g2⟩ := hv' _ hq
    have hu' := hu _ hp _ hq
    show wpAny _ _ (keyLt' (tuples' true) p.1 q.1) (fun r s' => s' = { s with heap := h' } ∧ r = slt (k p.1).1 (k q.1).1) _ _
    revert g1 g2 hu'
    generalize k p.1 = z1
    generalize k q.1 = z2
    intro g1 g2 hu'
    rw [e1, e2]
    refine kat_lt (s := { s with heap := h' }) g1 rfl g2 rfl ?_
    show KatLex prog w A true false _ [(Value.str z1.1 t1, Value.str z2.1 t2), (Value.int z1.2 u1, Value.int z2.2 u2)] 0 _
    refine kat_cons (wpAny_eqBool_str ?_)
    refine kat_go (fun e0 => ?_) (fun e0 => ?_)
    · have ez : z1.1 = z2.1 := of_decide_eq_true e0
      refine kat_yes (kat_cons (wpAny_eqBool_int ?_))
      have en : (z1.2 == z2.2) = true := by rw [hu' ez]; simp
      rw [en]
      refine kat_yes (kat_nil ⟨rfl, ?_⟩)
      rw [ez, slt_irr]
    · exact kat_no (oneLt_str ⟨rfl, rfl⟩)
end
end DK

set_option Elab.async false
set_option linter.all false
set_option maxRecDepth 100000
set_option maxHeartbeats 4000000
namespace DK
open PySem PySem.Spec PyProof.Rows L2 PySem.W
/-- from an old heap to a new one all that was tracked stands -/
abbrev Ex (H H' : Hp) : Prop := Evl.Ex H H'
def PrsAt (H : Hp) (ts : List Addr) (c : CM) : Prop := Paired (fun (t : Addr) (e : Str × Int) => H t = some (.tup [.str e.1, .int e.2])) ts c
/-- sorted by their texts -/
def Asc (c : CM) : Prop := c.Pairwise fun e f => slt f.1 e.1 = false
theorem keys_kvc (c : CM) : (kvc c).map (·.1) = c.map fun e => Sum.inr e.1 := by
  unfold kvc
  rw [List.map_map]
  rfl
def rSortedI : List V → Hp → VK → Prop := fun xs H Q => ∃ (p a : Addr) (c : CM), xs = [.ref p] ∧ H p = some (viewI p a) ∧ H a = some (.dK (kvc c)) ∧ (c.map (·.1)).Nodup ∧
  ∀ (H' : Hp) (l : Addr) (ts : List Addr) (c' : CM), Ex H H' → H l = none → (∀ t ∈ ts, H t = none) → c'.Perm c → Asc c' → H' l = some (.lst (ts.map V.ref)) → PrsAt H' ts c' → Q (.ref l) H'
theorem pairs_ix {P : Program} {w : World} {c : CM} {vs : List (Key × Value)} (r : KV (kvc c) vs) {es : List DictEntry} (p : Pairs (mixKind P w) es vs) {j : Nat} {e : DictEntry} (he : es[j]? = some e) :
    ∃ z t u, c[j]? = some z ∧ e.key = .str z.1 t ∧ e.val = .int z.2 u := by
  have hl : (kvc c).length = vs.length := Paired.length r
  have hl2 : es.length = vs.length := p.length
  have hj : j < es.length := (List.getElem?_eq_some_iff.mp he).1
  unfold kvc at hl
  rw [List.length_map] at hl
  have hjc : j < c.length := by omega
  have e1 : (kvc c)[j]? = some (Sum.inr c[j].1, V.int c[j].2) := by
    unfold kvc
    rw [List.getElem?_map, List.getElem?_eq_getElem hjc]
    rfl
  obtain ⟨q, hq, e2, ru⟩ := LiI.paired_get r e1
  obtain ⟨h1, h2⟩ := p.get? he (k := q.1) (v := q.2) hq
  obtain ⟨u, eu⟩ := ru
  have h1' : keyIs q.1 e.key = true := h1
  have e2' : q.1 = (Sum.inr c[j].1 : Key) := e2.symm
  rw [e2'] at h1'
  obtain ⟨t, et⟩ := Value.isStrOf_shape (x := c[j].1) (v := e.key) h1'
  exact ⟨c[j], t, u, List.getElem?_eq_getElem hjc, et, by rw [h2, eu]⟩
theorem nodup_val {c : CM} (hn : (c.map (·.1)).Nodup) : ∀ z ∈ c, ∀ y ∈ c, z.1 = y.1 → z.2 = y.2 := by
  intro z hz y hy e
  obtain ⟨i, hi⟩ := List.mem_iff_getElem?.mp hz
  obtain ⟨j, hj⟩ := List.mem_iff_getElem?.mp hy
  have h1 : (c.map (·.1))[i]? = some z.1 := by rw [List.getElem?_map, hi]; rfl
  have h2 : (c.map (·.1))[j]? = some z.1 := by rw [List.getElem?_map, hj, e]; rfl
  have : i = j := nd_ix hn h1 h2
  subst this
  rw [hi] at hj
  cases hj
  rfl
section
variable {X : Cx}
theorem cr_sortedI (hc : X.calm = true) : CallR X (.builtin "sorted") rSortedI := by
  intro pins s σ H xs us Q I r h
  obtain ⟨p, a, c, rfl, hp, ha, hn, q⟩ := h
  obtain rfl := Vals.ref1 r
  have view : s.heap.IsItemsView p a := (show ObjOk X.prog X.w H s.heap p (viewI p a) from I.hok p _ hp).1
  obtain ⟨z, lo, vs, rel, o, es, ep, ho, hx, hdat, _, prs, _⟩ := dk_of I.hok ha
  have hes : es.size = c.length := by
    have h1 := prs.length
    have h2 : (kvc c).length = vs.length := Paired.length rel
    unfold kvc at h2
    rw [List.length_map] at h2
    rw [Array.length_toList] at h1
    omega
  have zc : c.length ≤ sizeLine := by
    unfold kvc at z
    rw [List.length_map] at z
    exact z
  refine DT.sortedI (es := es) (ep := ep) (I.ok.hd hc) view ⟨o, ho, hx, hdat⟩ (by rw [hes]; exact zc) fun h' tk as hk hlt hl hG => ?_
  have lac : as.length = c.length := by omega
  have ndA : as.Nodup := List.Pairwise.imp (fun h => Nat.ne_of_lt h) hG.rise
  -- what each new tuple holds
  have pr : ∀ (j : Nat) (b : Addr), as[j]? = some b → ∃ e, c[j]? = some e ∧ PrAt h' b e := by
    intro j b hj
    obtain ⟨en, he, hg⟩ := hG.pairs j b hj
    obtain ⟨e, t, u, hcj, k1, k2⟩ := pairs_ix rel prs (by rw [Array.getElem?_toList]; exact he)
    exact ⟨e, hcj, t, u, by rw [hg, k1, k2]⟩
  have hob : (h'.push { cls := .type "list", data := .seq (as.map Value.ref).toArray }).get? h'.objs.size = some (seqObj "list" (as.map Value.ref).toArray 0) := Heap.get?_push_size _ rfl
  have ne0 : ∀ b o, h'.get? b = some o → b ≠ h'.objs.size := fun b o e => Nat.ne_of_lt (Heap.lt_size e)
  have ka : ∀ b o, h'.get? b = some o → (h'.push { cls := .type "list", data := .seq (as.map Value.ref).toArray }).get? b = some o := fun b o e => Heap.get?_push_of_some _ e
  generalize h'.push { cls := .type "list", data := .seq (as.map Value.ref).toArray } = h2 at hob ka ⊢
  have prv : ∀ v ∈ as.map Value.ref, ∃ b, v = .ref b ∧ b ≠ h'.objs.size ∧ PrAt h2 b (rdP h2 v) ∧ rdP h2 v ∈ c := by
    intro v hv
    obtain ⟨b, hb, rfl⟩ := List.mem_map.mp hv
    obtain ⟨j, hj⟩ := List.mem_iff_getElem?.mp hb
    obtain ⟨e, he, t, u, g⟩ := pr j b hj
    have p2 : PrAt h2 b e := ⟨t, u, ka _ _ g⟩
    refine ⟨b, rfl, ne0 _ _ g, ?_, ?_⟩
    · rw [p2.rd]
      exact p2
    · rw [p2.rd]
      exact List.mem_of_getElem? he
  have rdj : ∀ (j : Nat) (b : Addr), as[j]? = some b → c[j]? = some (rdP h2 (.ref b)) := by
    intro j b hj
    obtain ⟨e, he, t, u, g⟩ := pr j b hj
    have p2 : PrAt h2 b e := ⟨t, u, ka _ _ g⟩
    rw [p2.rd]
    exact he
  have ecA : c = as.map fun b => rdP h2 (.ref b) := by
    refine List.ext_getElem? fun j => ?_
    rw [List.getElem?_map]
    cases e : as[j]? with
    | none =>
      rw [List.getElem?_eq_none_iff.mpr (by rw [← lac]; exact List.getElem?_eq_none_iff.mp e)]
      rfl
    | some b =>
      rw [rdj j b e]
      rfl
  refine wpAny_call_entry PyProof.Rows.slot_list_sort ⟨_, hob, rfl⟩ PyProof.Rows.entry_list_sort ?_ (PyProof.Rows.args_list_sort _)
  refine SrtO.list_sort_ord (s := { s with heap := h2, toks := tk }) (ltv := fun v u => slt (rdP h2 v).1 (rdP h2 u).1) ⟨fun x y => slt_asym _ _, fun x y z => slt_tr _ _ _⟩ hob (by rw [List.length_map, lac]; exact zc) (fun hh2 => ?_) fun out o1 o2 => ⟨.none, rfl, ?_⟩
  · refine pr_sortable (s := { s with heap := h2, toks := tk }) (k := rdP h2) hh2 (fun v hv => ?_) fun v hv u hu e => ?_
    · obtain ⟨b, e1, e2, e3, _⟩ := prv v hv
      exact ⟨b, e1, e2, e3⟩
    · obtain ⟨_, _, _, _, m1⟩ := prv v hv
      obtain ⟨_, _, _, _, m2⟩ := prv u hu
      exact nodup_val hn _ m1 _ m2 e
  · show EP X pins σ Q (.ref h'.objs.size) { s with heap := sortedHeap h2 h'.objs.size (as.map Value.ref) out.toArray, toks := tk }
    have pm : out.Perm (as.map Value.ref) := o2.perm
    obtain ⟨ts, pts, ets⟩ := perm_lift Value.ref pm as rfl
    have hts : ∀ t ∈ ts, t ∈ as := fun t ht => pts.mem_iff.mp ht
    have kF : ∀ (b : Addr) o, b ≠ h'.objs.size → h2.get? b = some o → (sortedHeap h2 h'.objs.size (as.map Value.ref) out.toArray).get? b = some o := fun b o hb e => (PyProof.Rows.sortedHeap_old hb (Heap.lt_size e)).trans e
    have kS : ∀ (b : Addr) o, s.heap.get? b = some o → (sortedHeap h2 h'.objs.size (as.map Value.ref) out.toArray).get? b = some o := fun b o e => kF b o (ne0 _ _ (hk b o e)) (ka _ _ (hk b o e))
    obtain ⟨eF, heF⟩ := PyProof.Rows.sortedHeap_at (vs := as.map Value.ref) (out := out.toArray) hob
    have I1 : Inv X pins σ H { s with heap := sortedHeap h2 h'.objs.size (as.map Value.ref) out.toArray, toks := tk } := I.kept (t' := tk) kS
    have hn0 : H h'.objs.size = none := I.hok.fresh (Nat.le_of_lt hlt)
    have hlen : (ts.map V.ref).length ≤ sizeLine := by rw [List.length_map, pts.length_eq, lac]; exact zc
    have rv : Vals (ts.map V.ref) out := by rw [← ets]; exact LiI.vals_refs ts
    have I2 : Inv X pins σ (upd H h'.objs.size (.lst (ts.map V.ref))) { s with heap := sortedHeap h2 h'.objs.size (as.map Value.ref) out.toArray, toks := tk } :=
      I1.take (h' := sortedHeap h2 h'.objs.size (as.map Value.ref) out.toArray) (t' := tk) (fun b ob _ e => e) (I.fpOk (Nat.le_of_lt hlt) hn0) ⟨hlen, out, eF, rv, heF⟩
    have fr : ∀ t ∈ ts, H t = none := fun t ht => I.hok.fresh (Nat.le_of_lt (hG.above t (hts t ht)))
    obtain ⟨H2, I3, g, qt⟩ := DX.takeT (P := fun b vs => vs = [.str (rdP h2 (.ref b)).1, .int (rdP h2 (.ref b)).2]) I ts _ I2 (pts.nodup_iff.mpr ndA) fun b hb => by
      obtain ⟨b', eb, ne, ⟨t, u, g⟩, _⟩ := prv (.ref b) (List.mem_map.mpr ⟨b, hts b hb, rfl⟩)
      cases eb
      refine ⟨Nat.le_of_lt (hG.above b (hts b hb)), by rw [upd_ne ne]; exact fr b hb, _, rfl, fun H3 => ⟨(by rw [sizeLine_eq]; show 2 ≤ 16777216; omega), [_, _], .cons ⟨t, rfl⟩ (.cons ⟨u, rfl⟩ .nil), ⟨_, kF _ _ ne g, rfl, 0, rfl⟩⟩⟩
    have gr : Ex H H2 := fun b o e => g b o (by rw [upd_ne (ne_of_none e hn0)]; exact e)
    refine ⟨.ref h'.objs.size, H2, I3, rfl, q H2 h'.objs.size ts (ts.map fun b => rdP h2 (.ref b)) gr hn0 fr ?_ ?_ (g _ _ upd_same) ?_⟩
    · rw [ecA]
      exact pts.map _
    · have e2 : SrtO.Srtd (fun v u => slt (rdP h2 v).1 (rdP h2 u).1) (ts.map Value.ref) := by rw [ets]; exact o1
      exact List.pairwise_map.mpr (List.pairwise_map.mp e2)
    · have all : ∀ l : List Addr, (∀ t ∈ l, t ∈ ts) → PrsAt H2 l (l.map fun b => rdP h2 (.ref b)) := by
        intro l
        induction l with
        | nil => intro _; exact .nil
        | cons b l ih =>
          intro hm
          obtain ⟨vs', ev, hH⟩ := qt b (hm b (List.mem_cons_self ..))
          exact .cons (by rw [hH, ev]) (ih fun t ht => hm t (List.mem_cons_of_mem _ ht))
      exact all ts fun t ht => ht
end
end DK

set_option Elab.async false
set_option linter.all false
set_option maxRecDepth 100000
set_option maxHeartbeats 4000000
/-! Names, weights, tables of counts: plain functions; what stands in the heap. -/
namespace DK
open PySem PySem.Spec PyProof.Rows L2
/-! ### names and weights -/
abbrev letters : Str := "abcdefghijklmnopqrstuvwxyz"
def lowC (c : Nat) : Bool := decide (97 ≤ c ∧ c ≤ 122)
def isName (z : Str) : Bool := decide (1 ≤ z.length ∧ z.length ≤ 8) && z.cps.toList.all lowC
def great : Int := 1000000000000000000000000000000000000000000000000000000000000
def isNameV : V → Bool
  | .str z => isName z
  | _ => false
def isWt (i : Int) : Bool := decide (1 ≤ i ∧ i ≤ great)
def isWtV : V → Bool
  | .int i => isWt i
  | _ => false
def isWholeV : V → Bool
  | .int _ => true
  | _ => false
def isRoomV : V → Bool
  | .int i => decide (1 ≤ i ∧ i ≤ 50)
  | _ => false
theorem letters_contains (c : Nat) : letters.cps.contains c = lowC c := by
  have e : letters.cps = #[97, 98, 99, 100, 101, 102, 103, 104, 105, 106, 107, 108, 109, 110, 111, 112, 113, 114, 115, 116, 117, 118, 119, 120, 121, 122] := by decide +kernel
  rw [e]
  unfold lowC
  rcases Nat.lt_or_ge c 128 with h | h
  · revert c
    decide +kernel
  · have h1 : ¬ (97 ≤ c ∧ c ≤ 122) := by omega
    rw [decide_eq_false h1]
    refine Bool.eq_false_iff.mpr fun hm => ?_
    rw [Array.contains_iff] at hm
    simp only [List.mem_toArray, List.mem_cons, List.not_mem_nil, or_false] at hm
    omega
theorem takeWhile_len {goes : Nat → Bool} : ∀ l : List Nat, (l.takeWhile goes).length = l.length ↔ l.all goes = true
  | [] => by simp
  | a :: l => by
    rw [List.takeWhile_cons, List.all_cons]
    cases e : goes a with
    | true =>
      simp only [if_true, List.length_cons, Nat.add_right_cancel_iff, Bool.true_and]
      exact takeWhile_len l
    | false => simp
theorem takeWhile_le {goes : Nat → Bool} (l : List Nat) : (l.takeWhile goes).length ≤ l.length := (List.takeWhile_prefix goes).length_le
theorem strip_empty_iff (goes : Nat → Bool) (x : Str) : (PySem.Txt.stripBy goes true true x = Str.empty) ↔ x.cps.toList.all goes = true := by
  rw [stripBy_eq]
  unfold PySem.stripLo PySem.stripHi Builtin.Str.strSub
  simp only [if_true]
  have hx : x.length = x.cps.toList.length := by simp [Str.length]
  rw [hx]
  generalize x.cps = a
  have e1 : a.size = a.toList.length := by simp
  constructor
  · intro h
    have h2 := congrArg (fun z : Str => z.cps.size) h
    simp only [Array.size_extract] at h2
    have h3 : (Str.empty).cps.size = 0 := rfl
    rw [h3, e1] at h2
    have l1 := takeWhile_le (goes := goes) a.toList
    have l2 := takeWhile_le (goes := goes) (a.toList.drop (a.toList.takeWhile goes).length).reverse
    rw [List.length_reverse, List.length_drop] at l2
    refine (takeWhile_len a.toList).mp ?_
    rcases Nat.lt_or_ge (a.toList.takeWhile goes).length a.toList.length with c | c
    · exfalso
      have l3 : ((a.toList.drop (a.toList.takeWhile goes).length).reverse.takeWhile goes).length = (a.toList.drop (a.toList.takeWhile goes).length).reverse.length := by
        rw [List.length_reverse, List.length_drop]
        omega
      have l4 := (takeWhile_len _).mp l3
      rw [List.all_reverse] at l4
      have hd : ∃ y r, a.toList.drop (a.toList.takeWhile goes).length = y :: r := by
        cases e : a.toList.drop (a.toList.takeWhile goes).length with
        | nil =>
          have := congrArg List.length e
          rw [List.length_drop] at this
          simp at this
          simp at c
          omega
        | cons y r => exact ⟨y, r, rfl⟩
      obtain ⟨y, r, ed⟩ := hd
      rw [ed, List.all_cons, Bool.and_eq_true] at l4
      have st := takeWhile_stop goes 0 a.toList
      rcases st with st | st
      · omega
      · have : a.toList.getD (a.toList.takeWhile goes).length 0 = y := by
          rw [List.getD_eq_getElem?_getD]
          have := congrArg (fun l : List Nat => l[0]?) ed
          simp only [List.getElem?_drop, Nat.add_zero, List.getElem?_cons_zero] at this
          rw [this]
          rfl
        rw [this, l4.1] at st
        cases st
    · omega
  · intro h
    have l1 := (takeWhile_len a.toList).mpr h
    rw [l1]
    have e2 : a.toList.drop a.toList.length = [] := List.drop_length
    rw [e2]
    show Str.mk (a.extract a.toList.length (a.toList.length - 0)) = Str.empty
    rw [Nat.sub_zero]
    have : a.extract a.toList.length a.toList.length = #[] := by simp
    rw [this]
    rfl
theorem strip_letters (x : Str) : decide (V.str (PySem.Txt.stripChars x letters) = V.str "") = x.cps.toList.all lowC := by
  have e0 : ("" : Str) = Str.empty := by decide +kernel
  have e1 : (fun c => letters.cps.contains c) = lowC := funext letters_contains
  have h := strip_empty_iff lowC x
  unfold PySem.Txt.stripChars
  rw [show letters.cps.contains = lowC from e1, e0]
  cases ha : x.cps.toList.all lowC with
  | true =>
    rw [h.mpr ha]
    simp
  | false =>
    refine decide_eq_false fun e => ?_
    have := h.mp (V.str.inj e)
    rw [ha] at this
    cases this
/-! ### tables of counts -/
def hasC (c : CM) (n : Str) : Bool := c.any fun e => decide (e.1 = n)
def getC (c : CM) (n : Str) : Option Int := (c.find? fun e => decide (e.1 = n)).map (·.2)
def getD0 (c : CM) (n : Str) : Int := (getC c n).getD 0
def putC (c : CM) (n : Str) (v : Int) : CM := if hasC c n = true then c.map (fun e => if e.1 = n then (e.1, v) else e) else c ++ [(n, v)]
/-- so much less, without those that would have nothing -/
def lowered (c : CM) (m : Int) : CM := (c.filter fun e => decide (m < e.2)).map fun e => (e.1, e.2 - m)
def minL (w : Int) (l : List Int) : Int := l.foldl min w
def keysC (c : CM) : List Str := c.map (·.1)
def valsC (c : CM) : List Int := c.map (·.2)
/-- a coming: the table, what is lost by it -/
def come (room : Int) (c : CM) (n : Str) (w : Int) : CM × Int :=
  if hasC c n = false ∧ (c.length : Int) = room then
    let m := minL w (valsC c)
    let c' := lowered c m
    (if 0 < w - m then putC c' n (getD0 c' n + (w - m)) else c', m)
  else (putC c n (getD0 c n + w), 0)
theorem valV_kvc (n : Str) : ∀ c : CM, valV (kvc c) (Sum.inr n : Key) = (getC c n).map V.int
  | [] => rfl
  | e :: c => by
    by_cases h : e.1 = n
    · have h1 : valV (kvc (e :: c)) (Sum.inr n : Key) = some (V.int e.2) := valV_pos (p := ((Sum.inr e.1 : Key), V.int e.2)) (by rw [h])
      rw [h1]
      simp [getC, h]
    · have h1 : valV (kvc (e :: c)) (Sum.inr n : Key) = valV (kvc c) (Sum.inr n : Key) := valV_neg (p := ((Sum.inr e.1 : Key), V.int e.2)) (fun q => h (Sum.inr.inj q))
      rw [h1, valV_kvc n c]
      simp [getC, h]
theorem has_get (n : Str) : ∀ c : CM, hasC c n = (getC c n).isSome
  | [] => rfl
  | e :: c => by
    have ih := has_get n c
    unfold hasC getC at ih ⊢
    by_cases h : e.1 = n
    · simp [h]
    · rw [List.any_cons, List.find?_cons, decide_eq_false h, Bool.false_or]
      exact ih
theorem put_kvc (c : CM) (n : Str) (v : Int) : putK (kvc c) (Sum.inr n : Key) (V.int v) = kvc (putC c n v) := by
  have ea : ((kvc c).any fun kv => decide (kv.1 = (Sum.inr n : Key))) = hasC c n := by
    unfold kvc hasC
    rw [List.any_map]
    congr 1
    funext e
    simp only [Function.comp]
    rw [Bool.eq_iff_iff]
    simp
  unfold putK putC
  rw [ea]
  by_cases h : hasC c n = true
  · rw [if_pos h, if_pos h]
    unfold kvc
    rw [List.map_map, List.map_map]
    refine List.map_congr_left fun e _ => ?_
    simp only [Function.comp]
    by_cases h2 : e.1 = n
    · rw [if_pos (by rw [h2]), if_pos h2]
    · rw [if_neg (fun q => h2 (Sum.inr.inj q)), if_neg h2]
  · rw [if_neg h, if_neg h]
    unfold kvc
    rw [List.map_append]
    rfl
theorem len_kvc (c : CM) : (kvc c).length = c.length := by
  unfold kvc
  rw [List.length_map]
theorem snd_kvc (c : CM) : (kvc c).map (·.2) = (valsC c).map V.int := by
  unfold kvc valsC
  rw [List.map_map, List.map_map]
  rfl
/-! ### what stands in the heap -/
/-- all but these stands as it stood -/
def Off (l : List Addr) (H H' : Hp) : Prop := ∀ b o, b ∉ l → H b = some o → H' b = some o
theorem Off.refl (l : List Addr) (H : Hp) : Off l H H := fun _ _ _ e => e
theorem Off.of_ex {l : List Addr} {H H' : Hp} (e : Ex H H') : Off l H H' := fun b o _ h => e b o h
theorem Off.trans {l : List Addr} {H H1 H2 : Hp} (a : Off l H H1) (b : Off l H1 H2) : Off l H H2 := fun c o n e => b c o n (a c o n e)
theorem Off.mono {l m : List Addr} {H H1 : Hp} (a : Off l H H1) (h : ∀ b ∈ l, b ∈ m) : Off m H H1 := fun c o n e => a c o (fun z => n (h c z)) e
theorem Off.upd {l : List Addr} {H : Hp} {p : Addr} {o : HO} (h : p ∈ l) : Off l H (upd H p o) := fun b u n e => by
  rw [upd_ne (fun z => n (by rw [z]; exact h))]
  exact e
theorem Off.new {l : List Addr} {H : Hp} {p : Addr} {o : HO} (h : H p = none) : Off l H (L2.upd H p o) := fun b u n e => by
  rw [upd_ne (ne_of_none e h)]
  exact e
theorem Off.nil {H H' : Hp} (h : Off [] H H') : Ex H H' := fun b o e => h b o (fun z => nomatch z) e
/-- the attributes of a Desk, in the order in which they are stored -/
def dfl (room : Int) (d : Addr) (gone total : Int) : List (Str × V) := [(("room" : Str), .int room), (("counts" : Str), .ref d), (("gone" : Str), .int gone), (("total" : Str), .int total)]
section
variable (room : Int) (d : Addr) (gone total : Int)
theorem k_cr : ((("counts" : Str) == "room") = false) ∧ ((("gone" : Str) == "room") = false) ∧ ((("gone" : Str) == "counts") = false) ∧ ((("total" : Str) == "room") = false) ∧ ((("total" : Str) == "counts") = false) ∧ ((("total" : Str) == "gone") = false) := by decide +kernel
theorem k_rr : ((("room" : Str) == "room") = true) ∧ ((("counts" : Str) == "counts") = true) ∧ ((("gone" : Str) == "gone") = true) ∧ ((("total" : Str) == "total") = true) := by decide +kernel
theorem k_ne : ¬ ("room" : Str) = "counts" ∧ ¬ ("room" : Str) = "gone" ∧ ¬ ("room" : Str) = "total" ∧ ¬ ("counts" : Str) = "gone" ∧ ¬ ("counts" : Str) = "total" ∧ ¬ ("gone" : Str) = "total" := by decide +kernel
theorem dfl_room : (dfl room d gone total).lookup ("room" : Str) = some (.int room) := by
  simp only [dfl, List.lookup, k_rr.1]
theorem dfl_counts : (dfl room d gone total).lookup ("counts" : Str) = some (.ref d) := by
  simp only [dfl, List.lookup, k_cr.1, k_rr.2.1]
theorem dfl_gone : (dfl room d gone total).lookup ("gone" : Str) = some (.int gone) := by
  simp only [dfl, List.lookup, k_cr.2.1, k_cr.2.2.1, k_rr.2.2.1]
theorem dfl_total : (dfl room d gone total).lookup ("total" : Str) = some (.int total) := by
  simp only [dfl, List.lookup, k_cr.2.2.2.1, k_cr.2.2.2.2.1, k_cr.2.2.2.2.2, k_rr.2.2.2]
theorem dfl_no {m : Str} (h : (m == "room") = false ∧ (m == "counts") = false ∧ (m == "gone") = false ∧ (m == "total") = false) : (dfl room d gone total).lookup m = none := by
  simp only [dfl, List.lookup, h.1, h.2.1, h.2.2.1, h.2.2.2]
theorem dfl_put_counts (d' : Addr) : putF "counts" (.ref d') (dfl room d gone total) = dfl room d' gone total := by
  simp only [dfl, putF, if_neg k_ne.1, if_true]
theorem dfl_put_gone (z : Int) : putF "gone" (.int z) (dfl room d gone total) = dfl room d z total := by
  simp only [dfl, putF, if_neg k_ne.2.1, if_neg k_ne.2.2.2.1, if_true]
theorem dfl_put_total (z : Int) : putF "total" (.int z) (dfl room d gone total) = dfl room d gone z := by
  simp only [dfl, putF, if_neg k_ne.2.2.1, if_neg k_ne.2.2.2.2.1, if_neg k_ne.2.2.2.2.2, if_true]
theorem dfl_make : putF "total" (.int total) (putF "gone" (.int gone) (putF "counts" (.ref d) (putF "room" (.int room) []))) = dfl room d gone total := by
  simp only [dfl, putF, if_neg k_ne.1, if_neg k_ne.2.1, if_neg k_ne.2.2.1, if_neg k_ne.2.2.2.1, if_neg k_ne.2.2.2.2.1, if_neg k_ne.2.2.2.2.2]
end
/-- a Desk at p, its table at d -/
structure DeskAt (C : Addr) (H : Hp) (p d : Addr) (room : Int) (c : CM) (gone total : Int) : Prop where
  ob : ∃ dx, H p = some (.ins C dx (dfl room d gone total))
  dc : H d = some (.dK (kvc c))
  nd : (keysC c).Nodup
  ln : (c.length : Int) ≤ room
  r1 : 1 ≤ room
  r2 : room ≤ 50
theorem DeskAt.ne {C : Addr} {H : Hp} {p d : Addr} {room : Int} {c : CM} {gone total : Int} (D : DeskAt C H p d room c gone total) : p ≠ d := by
  obtain ⟨dx, h⟩ := D.ob
  exact ne_of h D.dc (fun z => nomatch z)
theorem DeskAt.off {C : Addr} {H H' : Hp} {p d : Addr} {room : Int} {c : CM} {gone total : Int} {l : List Addr} (D : DeskAt C H p d room c gone total) (h : Off l H H') (hp : p ∉ l) (hd : d ∉ l) : DeskAt C H' p d room c gone total :=
  ⟨let ⟨dx, e⟩ := D.ob; ⟨dx, h p _ hp e⟩, h d _ hd D.dc, D.nd, D.ln, D.r1, D.r2⟩
theorem DeskAt.ex {C : Addr} {H H' : Hp} {p d : Addr} {room : Int} {c : CM} {gone total : Int} (D : DeskAt C H p d room c gone total) (h : Ex H H') : DeskAt C H' p d room c gone total :=
  D.off (l := []) (Off.of_ex h) (fun z => nomatch z) (fun z => nomatch z)
theorem DeskAt.len {C : Addr} {H : Hp} {p d : Addr} {room : Int} {c : CM} {gone total : Int} (D : DeskAt C H p d room c gone total) : c.length ≤ 50 := by
  have := D.ln
  have := D.r2
  omega
/-- a thing whose kind isinstance can tell -/
structure Thing (K : PySem.W.Frag) (H : Hp) (x : V) : Prop where
  ex : ∃ t, TyX K H x t ∧ PySem.W.kitOne K t (.type "str") = some (match x with | .str _ => true | _ => false) ∧ PySem.W.kitOne K t (.type "int") = some (match x with | .int _ => true | .bl _ => true | _ => false) ∧ PySem.W.kitOne K t (.type "bool") = some (match x with | .bl _ => true | _ => false)
section
variable {K : PySem.W.Frag} {H : Hp}
theorem thing_str (z : Str) : Thing K H (.str z) := ⟨.type "str", .base (.str z), kit_ty (show kitB "str" "str" = some true by decide +kernel), kit_ty (show kitB "str" "int" = some false by decide +kernel), kit_ty (show kitB "str" "bool" = some false by decide +kernel)⟩
theorem thing_int (i : Int) : Thing K H (.int i) := ⟨.type "int", .base (.int i), kit_ty (show kitB "int" "str" = some false by decide +kernel), kit_ty (show kitB "int" "int" = some true by decide +kernel), kit_ty (show kitB "int" "bool" = some false by decide +kernel)⟩
theorem thing_bl (b : Bool) : Thing K H (.bl b) := ⟨.type "bool", .base (.bl b), kit_ty (show kitB "bool" "str" = some false by decide +kernel), kit_ty (show kitB "bool" "int" = some true by decide +kernel), kit_ty (show kitB "bool" "bool" = some true by decide +kernel)⟩
theorem thing_non : Thing K H .non := ⟨.type "NoneType", .base .non, kit_ty (show kitB "NoneType" "str" = some false by decide +kernel), kit_ty (show kitB "NoneType" "int" = some false by decide +kernel), kit_ty (show kitB "NoneType" "bool" = some false by decide +kernel)⟩
theorem thing_lst {a : Addr} {xs : List V} (h : H a = some (.lst xs)) : Thing K H (.ref a) := ⟨.type "list", .base (.lst h), kit_ty (show kitB "list" "str" = some false by decide +kernel), kit_ty (show kitB "list" "int" = some false by decide +kernel), kit_ty (show kitB "list" "bool" = some false by decide +kernel)⟩
theorem thing_dK {a : Addr} {kvs : List (Key × V)} (h : H a = some (.dK kvs)) : Thing K H (.ref a) := ⟨.type "dict", .base (.dK h), kit_ty (show kitB "dict" "str" = some false by decide +kernel), kit_ty (show kitB "dict" "int" = some false by decide +kernel), kit_ty (show kitB "dict" "bool" = some false by decide +kernel)⟩
end
/-! ### a def that may be called: where it stands and what it promises -/
structure Gf (P : Program) (w : World) (K : PySem.W.Frag) (mg : Str → Option Value) (base : Heap) (CX : CXT) (k : Nat) (x : Str) (ps : List Str) (sp : Sp) : Prop where
  ex : ∃ f fd, FnOk P w K mg base CX k f fd ps sp ∧ Binds K fd ps [] ∧ mg x = some (.ref f) ∧ PySem.W.keepIn K (.ref f) = true
/-- a method of the class at C -/
structure Gm (P : Program) (w : World) (K : PySem.W.Frag) (mg : Str → Option Value) (base : Heap) (CX : CXT) (C : Addr) (k : Nat) (x : Str) (ps : List Str) (sp : Sp) : Prop where
  ex : ∃ f fd, FnOk P w K mg base CX k f fd ps sp ∧ Binds K fd ps [] ∧ Meth K C x f
/-- an own exception class without __init__ of its own -/
structure ExT (K : PySem.W.Frag) (mg : Str → Option Value) (x : Str) (C : Addr) : Prop where
  g : mg x = some (.ref C)
  x : PySem.W.excIn K C [.type "ValueError", .type "Exception", .type "BaseException", .type "object"] "ValueError.__new__" = true
  k : PySem.W.keepIn K (.ref C) = true
  b : PySem.W.subIn K (.ref C) (.type "BaseException") = some true
  t : PySem.W.typeIn K (.ref C) = some (.type "type")
section
variable {X : Cx}
theorem pe_gint {x : Str} {i : Int} {t : Tok} {pos : Pos} (hm : X.mg x = some (.int i t)) (hg : Gl X x) (hd : (x == ("__debug__" : Str)) = false := by decide) : PE X (.Name x pos) (tC (.int i)) := pe_glob hg hm ⟨t, rfl⟩ hd
theorem pe_gstr {x : Str} {z : Str} {t : Tok} {pos : Pos} (hm : X.mg x = some (.str z t)) (hg : Gl X x) (hd : (x == ("__debug__" : Str)) = false := by decide) : PE X (.Name x pos) (tC (.str z)) := pe_glob hg hm ⟨t, rfl⟩ hd
theorem pe_bty {x : Str} {n : String} {pos : Pos} (hm : X.mg x = none) (hv : bootBuiltins x = some (.type n)) (hg : Gl X x) (hn : x ≠ "__name__" := by decide) (hd : (x == ("__debug__" : Str)) = false := by decide) : PE X (.Name x pos) (tC (.ty n)) := pe_bltn hg hm hv rfl hn hd
end
/-! ### loops and comprehensions over whatever is walked, n turns -/
theorem for_it {J : It} {n : Nat} {g : TG} {tb : TS} {D : Ends} {σ : L2.St} {H : Hp} (Pv : Nat → L2.St → Hp → Prop) (h0 : Pv 0 σ H) (hgo : ∀ i σ H, i < n → Pv i σ H → J.go i H) (hst : ∀ σ H, Pv n σ H → J.stop n H)
    (hs : ∀ i σ H, i < n → Pv i σ H → ∀ x H', J.yld i H x H' → g x σ H' fun σ2 H2 => tb { D with nx := Pv (i + 1), ct := Pv (i + 1), bk := D.nx } σ2 H2) (hd : ∀ σ H, Pv n σ H → D.nx σ H) :
    ∃ W : Nat → Nat → L2.St → Hp → Prop, (∃ m, W 0 m σ H) ∧ ∀ i m σ H, W i m σ H →
      (J.stop i H ∧ D.nx σ H) ∨ (J.go i H ∧ ∃ N : L2.St → Hp → Prop, (∀ σ' H', N σ' H' → ∃ m', m' < m ∧ W (i + 1) m' σ' H') ∧ ∀ x H', J.yld i H x H' → g x σ H' fun σ2 H2 => tb { D with nx := N, ct := N, bk := D.nx } σ2 H2) := by
  refine ⟨fun i m σ H => m = n - i ∧ i ≤ n ∧ Pv i σ H, ⟨n, (Nat.sub_zero n).symm, Nat.zero_le _, h0⟩, ?_⟩
  rintro i m σ H ⟨rfl, hi, p⟩
  rcases Nat.lt_or_ge i n with c | c
  · exact .inr ⟨hgo i σ H c p, Pv (i + 1), fun σ' H' p' => ⟨n - (i + 1), by omega, rfl, c, p'⟩, hs i σ H c p⟩
  · obtain rfl : i = n := by omega
    exact .inl ⟨hst σ H p, hd σ H p⟩
theorem lc_it {J : It} {n : Nat} {g : TG} {tt : TT} {te : TE} {vs : List Nat} {σ : L2.St} {H1 : Hp} {D : Addr} {Qd : Hp → Prop} (Pv : Nat → Hp → Prop) (h0 : Pv 0 (upd H1 D (.lst []))) (hgo : ∀ i H, i < n → Pv i H → J.go i H) (hst : ∀ H, Pv n H → J.stop n H)
    (hs : ∀ i H, i < n → Pv i H → ∀ x H', J.yld i H x H' → g x (wipe σ vs) H' fun σ2 H2 => wipe σ2 vs = wipe σ vs ∧ tt σ2 H2 fun b H3 =>
      if b = true then te σ2 H3 fun y H4 => ∃ acc, H4 D = some (.lst acc) ∧ acc.length < sizeLine ∧ Pv (i + 1) (upd H4 D (.lst (acc ++ [y]))) else Pv (i + 1) H3) (hd : ∀ H, Pv n H → Qd H) :
    ∃ W : Nat → Nat → Hp → Prop, (∃ m, W 0 m (upd H1 D (.lst []))) ∧ ∀ i m H, W i m H →
      (J.stop i H ∧ Qd H) ∨ (J.go i H ∧ ∃ Nx : Hp → Prop, (∀ H', Nx H' → ∃ m', m' < m ∧ W (i + 1) m' H') ∧ ∀ x H', J.yld i H x H' → g x (wipe σ vs) H' fun σ2 H2 => wipe σ2 vs = wipe σ vs ∧ tt σ2 H2 fun b H3 =>
        if b = true then te σ2 H3 fun y H4 => ∃ acc, H4 D = some (.lst acc) ∧ acc.length < sizeLine ∧ Nx (upd H4 D (.lst (acc ++ [y]))) else Nx H3) := by
  refine ⟨fun i m H => m = n - i ∧ i ≤ n ∧ Pv i H, ⟨n, (Nat.sub_zero n).symm, Nat.zero_le _, h0⟩, ?_⟩
  rintro i m H ⟨rfl, hi, p⟩
  rcases Nat.lt_or_ge i n with c | c
  · exact .inr ⟨hgo i H c p, Pv (i + 1), fun H' p' => ⟨n - (i + 1), by omega, rfl, c, p'⟩, hs i H c p⟩
  · obtain rfl : i = n := by omega
    exact .inl ⟨hst H p, hd H p⟩
/-- a Desk that is read (its table may be locked) -/
structure DeskR (C : Addr) (H : Hp) (p d : Addr) (room : Int) (c : CM) (gone total : Int) : Prop where
  ob : ∃ dx, H p = some (.ins C dx (dfl room d gone total))
  dc : Rd H d (.dK (kvc c))
theorem DeskAt.rd {C : Addr} {H : Hp} {p d : Addr} {room : Int} {c : CM} {gone total : Int} (D : DeskAt C H p d room c gone total) : DeskR C H p d room c gone total := ⟨D.ob, .inl D.dc⟩
theorem DGet.of {H : Hp} {d : Addr} {c : CM} (h : Rd H d (.dK (kvc c))) (n : Str) : DGet H d (.str n) ((getC c n).map V.int) := .inl ⟨kvc c, Sum.inr n, h, rfl, (valV_kvc n c).symm⟩
theorem IsD.of {H : Hp} {d : Addr} {c : CM} (h : Rd H d (.dK (kvc c))) : IsD H d := .inl ⟨_, h⟩
theorem getD_map (o : Option Int) (z : Int) : (o.map V.int).getD (.int z) = .int (o.getD z) := by
  cases o <;> rfl
theorem DPut.of {H : Hp} {d : Addr} {c : CM} (h : H d = some (.dK (kvc c))) (n : Str) (v : Int) (hl : c.length < sizeLine) : DPut H d (.str n) (.int v) (upd H d (.dK (kvc (putC c n v)))) :=
  .inl ⟨kvc c, Sum.inr n, h, rfl, by rw [len_kvc]; exact hl, by rw [put_kvc]⟩
theorem small {n : Nat} (h : n ≤ 100000) : n < sizeLine := by rw [sizeLine_eq]; omega
/-! ### what a coming keeps -/
theorem minL_le : ∀ (l : List Int) (w : Int), minL w l ≤ w ∧ ∀ y ∈ l, minL w l ≤ y
  | [], w => ⟨Int.le_refl _, fun _ h => nomatch h⟩
  | a :: l, w => by
    obtain ⟨h1, h2⟩ := minL_le l (min w a)
    have e : minL w (a :: l) = minL (min w a) l := rfl
    rw [e]
    refine ⟨by omega, fun y hy => ?_⟩
    rcases List.mem_cons.mp hy with rfl | hy
    · omega
    · exact h2 y hy
theorem minL_mem : ∀ (l : List Int) (w : Int), minL w l = w ∨ minL w l ∈ l
  | [], w => .inl rfl
  | a :: l, w => by
    have e : minL w (a :: l) = minL (min w a) l := rfl
    rw [e]
    rcases minL_mem l (min w a) with h | h
    · rcases Int.le_total w a with c | c
      · left
        rw [h]
        omega
      · right
        rw [h, Int.min_eq_right c]
        exact List.mem_cons_self ..
    · exact .inr (List.mem_cons_of_mem _ h)
theorem minL_uniq {l : List Int} {w m : Int} (h1 : m = w ∨ m ∈ l) (h2 : m ≤ w) (h3 : ∀ y ∈ l, m ≤ y) : m = minL w l := by
  obtain ⟨a1, a2⟩ := minL_le l w
  rcases minL_mem l w with b | b
  · rcases h1 with c | c
    · rw [c, b]
    · have := a2 m c
      omega
  · have := h3 _ b
    rcases h1 with c | c
    · omega
    · have := a2 m c
      omega
theorem keys_put (c : CM) (n : Str) (v : Int) : keysC (putC c n v) = if hasC c n = true then keysC c else keysC c ++ [n] := by
  unfold putC
  by_cases h : hasC c n = true
  · rw [if_pos h, if_pos h]
    unfold keysC
    rw [List.map_map]
    refine List.map_congr_left fun e _ => ?_
    simp only [Function.comp]
    split <;> rfl
  · rw [if_neg h, if_neg h]
    unfold keysC
    rw [List.map_append]
    rfl
theorem has_iff (c : CM) (n : Str) : hasC c n = true ↔ n ∈ keysC c := by
  unfold hasC keysC
  rw [List.any_eq_true, List.mem_map]
  constructor
  · rintro ⟨e, he, h⟩
    exact ⟨e, he, of_decide_eq_true h⟩
  · rintro ⟨e, he, h⟩
    exact ⟨e, he, decide_eq_true h⟩
theorem put_nodup {c : CM} {n : Str} {v : Int} (h : (keysC c).Nodup) : (keysC (putC c n v)).Nodup := by
  rw [keys_put]
  split
  · exact h
  · rename_i hn
    exact nd_snoc h fun hm => hn ((has_iff c n).mpr hm)
theorem put_len (c : CM) (n : Str) (v : Int) : (putC c n v).length = if hasC c n = true then c.length else c.length + 1 := by
  have e := congrArg List.length (keys_put c n v)
  unfold keysC at e
  rw [List.length_map] at e
  rw [e]
  split <;> simp
theorem lowered_keys (c : CM) (m : Int) : (keysC (lowered c m)).Sublist (keysC c) := by
  unfold lowered keysC
  rw [List.map_map]
  exact (List.filter_sublist).map _
theorem lowered_nodup {c : CM} {m : Int} (h : (keysC c).Nodup) : (keysC (lowered c m)).Nodup := (lowered_keys c m).nodup h
theorem lowered_len (c : CM) (m : Int) : (lowered c m).length ≤ c.length := by
  unfold lowered
  rw [List.length_map]
  exact List.length_filter_le _ _
theorem lowered_lt {c : CM} {m : Int} (h : ∃ e ∈ c, e.2 ≤ m) : (lowered c m).length < c.length := by
  obtain ⟨e, he, hm⟩ := h
  unfold lowered
  rw [List.length_map]
  exact List.length_filter_lt_length_iff_exists.mpr ⟨e, he, by simp; omega⟩
theorem come_nodup {room w : Int} {c : CM} {n : Str} (h : (keysC c).Nodup) : (keysC (come room c n w).1).Nodup := by
  unfold come
  split
  · dsimp only
    split
    · exact put_nodup (lowered_nodup h)
    · exact lowered_nodup h
  · exact put_nodup h
theorem come_len {room w : Int} {c : CM} {n : Str} (h : (c.length : Int) ≤ room) : ((come room c n w).1.length : Int) ≤ room := by
  unfold come
  split
  · dsimp only
    split
    · rename_i hw
      have hl : (lowered c (minL w (valsC c))).length < c.length := by
        rcases minL_mem (valsC c) w with e | e
        · rw [e] at hw
          omega
        · unfold valsC at e
          obtain ⟨z, hz, ez⟩ := List.mem_map.mp e
          exact lowered_lt ⟨z, hz, by show z.2 ≤ minL w (valsC c); unfold valsC; omega⟩
      rw [put_len]
      split <;> omega
    · have := lowered_len c (minL w (valsC c))
      omega
  · rename_i hn
    rw [put_len]
    split
    · exact h
    · rename_i h2
      have h3 : hasC c n = false := Bool.eq_false_iff.mpr h2
      have h4 : ¬ (c.length : Int) = room := fun z => hn ⟨h3, z⟩
      omega
end DK

set_option Elab.async false
set_option linter.all false
set_option maxRecDepth 100000
set_option maxHeartbeats 4000000
namespace DK
open PySem PySem.Spec PyProof.Rows L2
/-! ### the sorted ones -/
def sle (x y : Str) : Bool := !slt y x
theorem sle_tr (a b c : Str) (h1 : sle a b = true) (h2 : sle b c = true) : sle a c = true := by
  unfold sle at *
  rw [Bool.not_eq_true'] at *
  exact slt_tr a b c h1 h2
theorem sle_tot (a b : Str) : (sle a b || sle b a) = true := by
  unfold sle
  cases h1 : slt b a with
  | false => rfl
  | true =>
    rw [slt_asym _ _ h1]
    rfl
theorem sle_anti {a b : Str} (h1 : sle a b = true) (h2 : sle b a = true) : a = b := by
  unfold sle at *
  rw [Bool.not_eq_true'] at *
  exact slt_tot a b h2 h1
def sortS (l : List Str) : List Str := l.mergeSort sle
def sortC (c : CM) : CM := c.mergeSort fun e f => sle e.1 f.1
theorem sortS_perm (l : List Str) : (sortS l).Perm l := List.mergeSort_perm _ _
theorem sortC_perm (c : CM) : (sortC c).Perm c := List.mergeSort_perm _ _
theorem sortS_asc (l : List Str) : (sortS l).Pairwise fun x y => sle x y = true := List.pairwise_mergeSort sle_tr sle_tot l
theorem sortC_asc (c : CM) : (sortC c).Pairwise fun e f => sle e.1 f.1 = true := List.pairwise_mergeSort (fun a b c => sle_tr a.1 b.1 c.1) (fun a b => sle_tot a.1 b.1) c
theorem rising_pw : ∀ (r : List Str) (p : Str), risingS p r = true → (p :: r).Pairwise fun x y => sle x y = true
  | [], p, _ => List.pairwise_singleton _ _
  | x :: r, p, h => by
    unfold risingS at h
    rw [Bool.and_eq_true] at h
    have ih := rising_pw r x h.2
    have hpx : sle p x = true := by
      have h1 := h.1
      rw [Bool.not_eq_true'] at h1
      unfold sle slt
      rw [← ltCps_eq, h1]
      rfl
    rw [List.pairwise_cons]
    refine ⟨fun y hy => ?_, ih⟩
    rcases List.mem_cons.mp hy with rfl | hy
    · exact hpx
    · exact sle_tr _ _ _ hpx ((List.pairwise_cons.mp ih).1 y hy)
theorem sortedS_pw {l : List Str} (h : sortedS l = true) : l.Pairwise fun x y => sle x y = true := by
  cases l with
  | nil => exact List.Pairwise.nil
  | cons x r => exact rising_pw r x h
theorem sortS_eq {ys xs : List Str} (p : ys.Perm xs) (h : ys.Pairwise fun x y => sle x y = true) : ys = sortS xs :=
  List.Perm.eq_of_pairwise (fun a b _ _ h1 h2 => sle_anti h1 h2) h (sortS_asc xs) (p.trans (sortS_perm xs).symm)
theorem mem_eq {c : CM} (nd : (keysC c).Nodup) {e f : Str × Int} (he : e ∈ c) (hf : f ∈ c) (h : e.1 = f.1) : e = f := by
  have := nodup_val nd e he f hf h
  exact Prod.ext h this
theorem sortC_eq {c' c : CM} (nd : (keysC c).Nodup) (p : c'.Perm c) (h : c'.Pairwise fun e f => sle e.1 f.1 = true) : c' = sortC c :=
  List.Perm.eq_of_pairwise (fun a b ha hb h1 h2 => mem_eq nd (p.mem_iff.mp ha) ((sortC_perm c).mem_iff.mp hb) (sle_anti h1 h2)) h (sortC_asc c) (p.trans (sortC_perm c).symm)
theorem sortC_asc' {c' : CM} (h : Asc c') : c'.Pairwise fun e f => sle e.1 f.1 = true :=
  h.imp fun {e f} h => by
    unfold sle
    rw [h]
    rfl
theorem perm_keys {c' c : CM} (p : c'.Perm c) : (keysC c').Perm (keysC c) := by
  unfold keysC
  exact p.map _
theorem sortC_nodup {c : CM} (nd : (keysC c).Nodup) : (keysC (sortC c)).Nodup := (perm_keys (sortC_perm c)).nodup_iff.mpr nd
theorem sortC_len (c : CM) : (sortC c).length = c.length := (sortC_perm c).length_eq
theorem merge_new : ∀ (c a : CM), (keysC (a ++ c)).Nodup → mergeK (kvc a) (kvc c) = kvc (a ++ c)
  | [], a, _ => by
    rw [List.append_nil]
    rfl
  | e :: c, a, h => by
    have e1 : mergeK (kvc a) (kvc (e :: c)) = mergeK (putK (kvc a) (Sum.inr e.1) (V.int e.2)) (kvc c) := rfl
    have hn : hasC a e.1 = false := by
      refine Bool.eq_false_iff.mpr fun hh => ?_
      have hm := (has_iff a e.1).mp hh
      unfold keysC at h hm
      rw [List.map_append, List.nodup_append] at h
      exact h.2.2 _ hm _ (by simp) rfl
    rw [e1, put_kvc]
    have e2 : putC a e.1 e.2 = a ++ [e] := by
      unfold putC
      rw [if_neg (by rw [hn]; exact Bool.false_ne_true)]
    rw [e2, merge_new c (a ++ [e]) (by rw [List.append_assoc]; exact h), List.append_assoc]
    rfl
theorem merge_kvc {c : CM} (h : (keysC c).Nodup) : mergeK [] (kvc c) = kvc c := merge_new c [] h
theorem prs_paired {K : PySem.W.Frag} {H : Hp} {ts : List Addr} {c : CM} (h : PrsAt H ts c) : Paired (fun p (kv : Key × V) => SqT K H p [kV kv.1, kv.2]) ts (kvc c) := by
  unfold PrsAt at h
  induction h with
  | nil => exact .nil
  | cons r t ih => exact .cons (SqT.of r) ih
/-- the tables that are one up to their order -/
theorem getC_mem {c : CM} (nd : (keysC c).Nodup) {n : Str} {v : Int} : getC c n = some v ↔ (n, v) ∈ c := by
  unfold getC
  constructor
  · intro h
    cases e : c.find? (fun e => decide (e.1 = n)) with
    | none => rw [e] at h; cases h
    | some z =>
      rw [e] at h
      have h1 := List.mem_of_find?_eq_some e
      have h2 := List.find?_some (p := fun e : Str × Int => decide (e.1 = n)) e
      have h3 : z.1 = n := of_decide_eq_true h2
      have h4 : z.2 = v := Option.some.inj h
      rw [← h3, ← h4]
      exact h1
  · intro h
    cases e : c.find? (fun e => decide (e.1 = n)) with
    | none =>
      have := List.find?_eq_none.mp e _ h
      simp at this
    | some z =>
      have h1 := List.mem_of_find?_eq_some e
      have h2 : z.1 = n := of_decide_eq_true (List.find?_some (p := fun e : Str × Int => decide (e.1 = n)) e)
      have : z = (n, v) := mem_eq nd h1 h h2
      rw [this]
      rfl
theorem getC_perm {c c' : CM} (nd : (keysC c).Nodup) (p : c'.Perm c) (n : Str) : getC c' n = getC c n := by
  have nd' : (keysC c').Nodup := (perm_keys p).nodup_iff.mpr nd
  cases e : getC c n with
  | some v => exact (getC_mem nd').mpr (p.mem_iff.mpr ((getC_mem nd).mp e))
  | none =>
    cases e' : getC c' n with
    | none => rfl
    | some v =>
      have := (getC_mem nd).mpr (p.mem_iff.mp ((getC_mem nd').mp e'))
      rw [e] at this
      cases this
end DK

set_option Elab.async false
set_option linter.all false
set_option maxRecDepth 100000
set_option maxHeartbeats 4000000
namespace DK
open PySem PySem.Spec PyProof.Rows L2
/-! ### texts by their codes -/
abbrev cs (z : Str) : List Nat := z.cps.toList
theorem cs_len (z : Str) : z.length = (cs z).length := by simp [Str.length, cs]
theorem cs_app (x y : Str) : cs (x ++ y) = cs x ++ cs y := by
  show (x.cps ++ y.cps).toList = _
  simp [cs]
theorem cs_mk (l : List Nat) : cs ⟨l.toArray⟩ = l := by simp [cs]
theorem cs_inj {x y : Str} (h : cs x = cs y) : x = y := cps_inj h
theorem cut_to (z : Str) (k : Nat) : cs (cutS z none (some (k : Int))) = (cs z).take k := by
  unfold cutS
  rw [cs_mk, HT.sIx_none, HT.sIx_nat, List.drop_zero, Nat.sub_zero, cs_len]
  rcases Nat.le_total k (cs z).length with h | h
  · rw [Nat.min_eq_left h]
  · rw [Nat.min_eq_right h, List.take_of_length_le (Nat.le_refl _), List.take_of_length_le h]
theorem cut_from (z : Str) (k : Nat) : cs (cutS z (some (k : Int)) none) = (cs z).drop k := by
  unfold cutS
  rw [cs_mk, HT.sIx_none, HT.sIx_nat, cs_len]
  rw [List.take_of_length_le (by rw [List.length_drop]; exact Nat.le_refl _)]
  rcases Nat.le_total k (cs z).length with h | h
  · rw [Nat.min_eq_left h]
  · rw [Nat.min_eq_right h, List.drop_of_length_le (Nat.le_refl _), List.drop_of_length_le h]
theorem letters_at (i : Int) (h0 : 0 ≤ i) (h1 : i < 26) : atI (cs letters) i = some (97 + i.toNat) := by
  have e : cs letters = [97, 98, 99, 100, 101, 102, 103, 104, 105, 106, 107, 108, 109, 110, 111, 112, 113, 114, 115, 116, 117, 118, 119, 120, 121, 122] := by decide +kernel
  obtain ⟨k, rfl⟩ : ∃ k : Nat, i = (k : Int) := ⟨i.toNat, by omega⟩
  refine atI_nat ?_
  rw [e]
  have hk : k < 26 := by omega
  have all : ∀ j : Nat, j < 26 → ([97, 98, 99, 100, 101, 102, 103, 104, 105, 106, 107, 108, 109, 110, 111, 112, 113, 114, 115, 116, 117, 118, 119, 120, 121, 122] : List Nat)[j]? = some (97 + j) := by decide +kernel
  exact all k hk
theorem isName_iff (z : Str) : isName z = true ↔ 1 ≤ (cs z).length ∧ (cs z).length ≤ 8 ∧ ∀ c ∈ cs z, 97 ≤ c ∧ c ≤ 122 := by
  unfold isName
  rw [Bool.and_eq_true, List.all_eq_true, cs_len]
  constructor
  · rintro ⟨h1, h2⟩
    have := of_decide_eq_true h1
    exact ⟨this.1, this.2, fun c hc => of_decide_eq_true (h2 c hc)⟩
  · rintro ⟨h1, h2, h3⟩
    exact ⟨decide_eq_true ⟨h1, h2⟩, fun c hc => decide_eq_true (h3 c hc)⟩
/-- text times number: the codes -/
theorem mulS_ok {z : Str} {n : Int} (hz : z.length = 1) (h1 : 1 ≤ n) (h8 : n ≤ 8) : MulOk z n := by
  refine ⟨?_, fun _ _ => ?_, fun _ _ => ?_⟩
  · rw [Bool.or_eq_false_iff]
    exact ⟨decide_eq_false (by omega), decide_eq_false (by omega)⟩
  · rw [hz]
    have : (1 : Int) ≤ (2 ^ 63 - 1) / n := by
      rw [Int.le_ediv_iff_mul_le (by omega)]
      omega
    show ¬ ((1 : Nat) : Int) > _
    omega
  · rw [hz]
    unfold Builtin.Str.tooLong
    have h2 : 1 * n.toNat ≤ 8 := by omega
    refine decide_eq_false ?_
    generalize 1 * n.toNat = k at h2
    have : sizeLine = 16777216 := sizeLine_eq
    omega
theorem mulS_cs (c : Nat) : ∀ n : Nat, 1 ≤ n → n ≤ 8 → cs (PySem.Txt.mul ⟨#[c]⟩ (n : Int)) = List.replicate n c := by
  intro n h1 h8
  have h : n = 1 ∨ n = 2 ∨ n = 3 ∨ n = 4 ∨ n = 5 ∨ n = 6 ∨ n = 7 ∨ n = 8 := by omega
  rcases h with rfl | rfl | rfl | rfl | rfl | rfl | rfl | rfl <;> rfl
/-! ### the names that a law makes -/
/-- words of 1 to 8 letters, each with its own letter at one place -/
structure NamesOk (nm : List Str) : Prop where
  ok : ∀ n ∈ nm, isName n = true
  nd : nm.Nodup
/-- the k-th word by the letter at the place a -/
structure WordAt (q : Int) (a : Nat) (k : Nat) (z : Str) : Prop where
  nm : isName z = true
  at_ : (cs z)[a]? = some (97 + ((q + 5 * (k : Int)) % 26).toNat)
theorem words_ok {q : Int} {a : Nat} {nm : List Str} (hl : nm.length ≤ 14) (h : ∀ (k : Nat) (z : Str), nm[k]? = some z → WordAt q a k z) : NamesOk nm := by
  refine ⟨fun n hn => ?_, ?_⟩
  · obtain ⟨k, hk⟩ := List.mem_iff_getElem?.mp hn
    exact (h k n hk).nm
  · refine List.pairwise_iff_getElem.mpr fun i j hi hj hij e => ?_
    have ei : nm[i]? = some nm[i] := List.getElem?_eq_getElem hi
    have ej : nm[j]? = some nm[i] := by rw [e]; exact List.getElem?_eq_getElem hj
    have a1 := (h i _ ei).at_
    have a2 := (h j _ ej).at_
    rw [a1] at a2
    have := Option.some.inj a2
    omega
end DK

set_option Elab.async false
set_option linter.all false
set_option maxRecDepth 100000
set_option maxHeartbeats 4000000
namespace DK
open PySem PySem.Spec PyProof.Rows L2
/-! ### a number in a view of values: asked by walking -/
theorem no_contains : typeLookup (.type "dict_values") "__contains__" = pure none := by rw [typeLookup_type, builtinLookup_eq_fast]; kernel_rfl
theorem plain_in_loop : plainId "proto.contains_iter" = true := by decide +kernel
theorem entry_in_loop : entryFor table "proto.contains_iter" = some Builtin.«proto.contains_iter» := entryFor_of_tree (by kernel_rfl)
theorem code_in_loop {prog : Program} {w : World} {A : Around} {R : Result → Shared → Prop} {I : Addr} {fp wr : List Addr} {n : Nat} {P : Nat → Value → Prop} {St : Nat → Heap → Prop}
    (W : Walks prog w A.in1 I fp wr n P St) (val : Nat → Int) (hval : ∀ i v, P i v → ∃ t, v = .int (val i) t) (x : Int) (tx : Tok) :
    ∀ (k i : Nat) (s : Shared), n - i = k → i ≤ n → St i s.heap →
    (∀ (r : Bool) (h' : Heap) (tk : Nat), (r = true ↔ ∃ j, i ≤ j ∧ j < n ∧ val j = x) → (∀ b o, b ∉ wr → s.heap.get? b = some o → h'.get? b = some o) → R (.ok (.ret (.bool r))) { s with heap := h', toks := tk }) →
    codeAny (model prog w) A (.builtin "proto.contains_iter" ⟨[.ref I, .int x tx], []⟩) R s := by
  intro k
  induction k with
  | zero =>
    intro i s hk hi hst hR
    have hin : i = n := by omega
    subst hin
    refine codeAny_builtin entry_in_loop ?_
    rw [Around.under_plainId plain_in_loop _]
    show wpAny _ A.in1 (pyNext (.ref I) >>= _) _ _ s
    refine wpAny_bind (W.done s _ _ hst fun h' tk hk' => ?_)
    refine wpAny_bind (wpAny_rule ?_)
    exact wpAny_pure (hR false h' tk ⟨fun h => (nomatch h), fun ⟨j, h1, h2, _⟩ => absurd h2 (by omega)⟩ hk')
  | succ k ih =>
    intro i s hk hi hst hR
    have hlt : i < n := by omega
    refine codeAny_builtin entry_in_loop ?_
    rw [Around.under_plainId plain_in_loop _]
    show wpAny _ A.in1 (pyNext (.ref I) >>= _) _ _ s
    refine wpAny_bind (W.item i s _ _ hlt hst fun v h' tk hP hst' hk' => ?_)
    obtain ⟨t, rfl⟩ := hval i v hP
    refine wpAny_bind (wpAny_eqBool_int ?_)
    by_cases c : val i = x
    · have e : (val i == x) = true := by rw [c]; exact beq_self_eq_true x
      rw [e]
      refine wpAny_bind (wpAny_rule ?_)
      exact wpAny_pure (hR true h' tk ⟨fun _ => ⟨i, Nat.le_refl _, hlt, c⟩, fun _ => rfl⟩ hk')
    · have e : (val i == x) = false := by rw [beq_eq_false_iff_ne]; exact c
      rw [e]
      refine wpAny_pure ⟨plainId_quiet plain_in_loop _, ih (i + 1) _ (by omega) hlt hst' fun r h2 tk2 hr hk2 => hR r h2 tk2 (hr.trans ⟨fun ⟨j, h1, h2, h3⟩ => ⟨j, by omega, h2, h3⟩, fun ⟨j, h1, h2, h3⟩ => ?_⟩) fun b o hb e => hk2 b o hb (hk' b o hb e)⟩
      rcases Nat.eq_or_lt_of_le h1 with z | z
      · exact absurd (z ▸ h3) c
      · exact ⟨j, z, h2, h3⟩
section
variable {X : Cx} {pins : List (Addr × Obj)} {σ : L2.St} {H : Hp} {s : Shared}
def rInV : R2 := fun x y H Q => ∃ (i : Int) (p a : Addr) (kvs : List (Key × V)) (ns : List Int), x = .int i ∧ y = .ref p ∧ H p = some (viewV p a) ∧ H a = some (.dK kvs) ∧ kvs.map (·.2) = ns.map V.int ∧ ∀ b : Bool, (b = true ↔ i ∈ ns) → Q (.bl b) H
theorem op_inV (hc : X.calm = true) : OpR X (compareOp .In) rInV := by
  intro pins s σ H x y v u Q I rx ry h
  obtain ⟨i, p, a, kvs, ns, rfl, rfl, hp, ha, hns, q⟩ := h
  obtain ⟨tx, rfl⟩ : ∃ t, v = Value.int i t := rx
  obtain rfl : u = Value.ref p := ry
  obtain ⟨vs, ep, rel, z, hl, src⟩ := src_of I hp ha
  have hln : vs.length = ns.length := by rw [← hl]; exact len_at hns
  have K := PySem.W.kdl_values (prog := X.prog) (w := X.w) (r := p) (d := a) (knd := mixKind X.prog X.w) (kvs := vs) (ep := ep)
  have hT := K.type s src
  show wpAny _ _ (contains (.ref p) (.int i tx) >>= _) _ _ s
  refine wpAny_bind ?_
  unfold contains
  refine wpAny_holding ?_
  rw [stdlibNamesSay?_of_typeIs hT]
  refine wpAny_bind (wpAny_specialOf hT no_contains ?_)
  show wpAny _ _ (if ((none : Option Value) == some Value.none) = true then _ else _) _ _ s
  rw [if_neg (by decide)]
  refine wpAny_bind (wpAny_callSpecialUnlessNone?_none hT no_contains ?_)
  refine wpAny_bind (wpAny_rule ?_)
  obtain ⟨oI, St, hit, W, st⟩ := K.iter X.A.in1 s (show X.A.in1.handled = none from I.ok.hd hc) src
  refine wpAny_bind (wpAny_tryCatch (wpAny_of_in1 (hit _ _ ?_)))
  refine wpAny_bind (wpAny_runValue ?_)
  refine code_in_loop W (fun i => ns.getD i 0) (fun i v hv => val_at rel hns hv) i tx _ 0 _ rfl (Nat.zero_le _) st fun r h' tk hr hk => ?_
  have hk2 : ∀ b o, s.heap.get? b = some o → h'.get? b = some o := fun b o e =>
    hk b o (fun hI => absurd (Heap.lt_size e) (by rw [List.mem_singleton.mp hI]; exact Nat.lt_irrefl _)) (Heap.get?_push_of_some _ e)
  refine wpAny_pure (wpAny_pure ?_)
  refine ⟨.bl r, H, I.kept hk2, rfl, q r (hr.trans ⟨fun ⟨j, _, h2, h3⟩ => ?_, fun hm => ?_⟩)⟩
  · rw [hln] at h2
    rw [List.getD_eq_getElem?_getD, List.getElem?_eq_getElem h2] at h3
    exact h3 ▸ List.getElem_mem h2
  · obtain ⟨j, h2, h3⟩ := List.getElem_of_mem hm
    exact ⟨j, Nat.zero_le _, by rw [hln]; exact h2, by rw [List.getD_eq_getElem?_getD, List.getElem?_eq_getElem h2]; exact h3⟩
end
end DK

set_option Elab.async false
set_option linter.all false
set_option maxRecDepth 100000
set_option maxHeartbeats 4000000
namespace DK
open PySem PySem.Spec PyProof.Rows L2
/-! ### a table, name by name -/
theorem getC_put (c : CM) (n : Str) (v : Int) (m : Str) : getC (putC c n v) m = if m = n then some v else getC c m := by
  unfold putC
  by_cases h : hasC c n = true
  · rw [if_pos h]
    induction c with
    | nil => cases h
    | cons e c ih =>
      rw [List.map_cons]
      by_cases he : e.1 = n
      · rw [if_pos he]
        by_cases hm : m = n
        · rw [if_pos hm]
          simp [getC, he, hm]
        · rw [if_neg hm]
          have h1 : ¬ e.1 = m := fun z => hm (z.symm.trans he)
          by_cases h2 : hasC c n = true
          · have := ih h2
            rw [if_neg hm] at this
            unfold getC at this ⊢
            rw [List.find?_cons, List.find?_cons, decide_eq_false h1]
            exact this
          · have e1 : c.map (fun e => if e.1 = n then (e.1, v) else e) = c := by
              refine (List.map_congr_left fun x hx => ?_).trans (List.map_id _)
              rw [if_neg fun z => h2 (List.any_eq_true.mpr ⟨x, hx, decide_eq_true z⟩)]
              rfl
            rw [e1]
            unfold getC
            rw [List.find?_cons, List.find?_cons, decide_eq_false h1]
      · rw [if_neg he]
        have h2 : hasC c n = true := by
          unfold hasC at h ⊢
          rw [List.any_cons, decide_eq_false he, Bool.false_or] at h
          exact h
        have := ih h2
        unfold getC at this ⊢
        rw [List.find?_cons, List.find?_cons]
        by_cases h3 : e.1 = m
        · rw [decide_eq_true h3]
          rw [if_neg fun z => he (h3.trans z)]
        · rw [decide_eq_false h3]
          exact this
  · rw [if_neg h]
    have hn : getC c n = none := by
      have := has_get n c
      rw [Bool.eq_false_iff.mpr h] at this
      cases e : getC c n with
      | none => rfl
      | some y => rw [e] at this; cases this
    unfold getC at hn ⊢
    rw [List.find?_append]
    by_cases hm : m = n
    · rw [if_pos hm, hm]
      have : (c.find? fun e => decide (e.1 = n)) = none := Option.map_eq_none_iff.mp hn
      rw [this]
      simp
    · rw [if_neg hm]
      cases e : c.find? fun e => decide (e.1 = m) with
      | some y => rfl
      | none =>
        rw [Option.none_or, List.find?_cons, decide_eq_false (fun z : n = m => hm z.symm)]
        rfl
theorem getD0_put (c : CM) (n : Str) (v : Int) (m : Str) : getD0 (putC c n v) m = if m = n then v else getD0 c m := by
  unfold getD0
  rw [getC_put]
  split <;> rfl
def sumC (c : CM) : Int := (valsC c).sum
theorem sumC_cons (e : Str × Int) (c : CM) : sumC (e :: c) = e.2 + sumC c := by
  unfold sumC valsC
  rw [List.map_cons, List.sum_cons]
theorem getC_cons_ne {e : Str × Int} {c : CM} {m : Str} (h : ¬ e.1 = m) : getC (e :: c) m = getC c m := by
  unfold getC
  rw [List.find?_cons, decide_eq_false h]
theorem getC_cons_eq {e : Str × Int} {c : CM} {m : Str} (h : e.1 = m) : getC (e :: c) m = some e.2 := by
  unfold getC
  rw [List.find?_cons, decide_eq_true h]
  rfl
theorem map_same {c : CM} {n : Str} {v : Int} (h : n ∉ keysC c) : c.map (fun e => if e.1 = n then (e.1, v) else e) = c := by
  refine (List.map_congr_left fun x hx => ?_).trans (List.map_id _)
  rw [if_neg fun z => h (List.mem_map.mpr ⟨x, hx, z⟩)]
  rfl
theorem no_key {c : CM} {n : Str} (h : hasC c n = false) : n ∉ keysC c := fun z => by
  rw [(has_iff c n).mpr z] at h
  cases h
theorem get_none {c : CM} {n : Str} (h : n ∉ keysC c) : getC c n = none := by
  have := has_get n c
  cases e : getC c n with
  | none => rfl
  | some y =>
    rw [e] at this
    exact absurd ((has_iff c n).mp this) h
theorem sum_put {c : CM} (nd : (keysC c).Nodup) (n : Str) (v : Int) : sumC (putC c n v) = sumC c - getD0 c n + v := by
  unfold putC
  by_cases h : hasC c n = true
  · rw [if_pos h]
    induction c with
    | nil => cases h
    | cons e c ih =>
      obtain ⟨n1, n2⟩ := List.nodup_cons.mp (show (e.1 :: keysC c).Nodup from nd)
      rw [List.map_cons, sumC_cons, sumC_cons]
      by_cases he : e.1 = n
      · rw [if_pos he, map_same (by rw [← he]; exact n1)]
        unfold getD0
        rw [getC_cons_eq he]
        show v + sumC c = e.2 + sumC c - e.2 + v
        omega
      · rw [if_neg he]
        have h2 : hasC c n = true := by
          unfold hasC at h ⊢
          rw [List.any_cons, decide_eq_false he, Bool.false_or] at h
          exact h
        have := ih n2 h2
        unfold getD0 at this ⊢
        rw [getC_cons_ne he]
        omega
  · rw [if_neg h]
    have e0 : getD0 c n = 0 := by
      unfold getD0
      rw [get_none (no_key (Bool.eq_false_iff.mpr h))]
      rfl
    rw [e0]
    unfold sumC valsC
    rw [List.map_append, List.sum_append]
    simp
def posC (c : CM) : Prop := ∀ e ∈ c, 0 < e.2
theorem pos_put {c : CM} {n : Str} {v : Int} (h : posC c) (hv : 0 < v) : posC (putC c n v) := by
  intro e he
  unfold putC at he
  split at he
  · obtain ⟨x, hx, rfl⟩ := List.mem_map.mp he
    split
    · exact hv
    · exact h x hx
  · rcases List.mem_append.mp he with he | he
    · exact h e he
    · rw [List.mem_singleton.mp he]
      exact hv
theorem pos_get {c : CM} (h : posC c) (n : Str) : 0 ≤ getD0 c n := by
  unfold getD0 getC
  cases e : c.find? fun e => decide (e.1 = n) with
  | none => exact Int.le_refl _
  | some x =>
    have := h x (List.mem_of_find?_eq_some e)
    show 0 ≤ x.2
    omega
theorem pos_has {c : CM} {n : Str} (h : 0 < getD0 c n) : n ∈ keysC c := by
  refine Classical.byContradiction fun z => ?_
  unfold getD0 at h
  rw [get_none z] at h
  cases h
theorem has_pos {c : CM} {n : Str} (hp : posC c) (h : n ∈ keysC c) : ∃ v, getC c n = some v ∧ 0 < v := by
  have := has_get n c
  rw [(has_iff c n).mpr h] at this
  cases e : getC c n with
  | none => rw [e] at this; cases this
  | some v =>
    refine ⟨v, rfl, ?_⟩
    unfold getC at e
    obtain ⟨x, hx, rfl⟩ := Option.map_eq_some_iff.mp e
    exact hp x (List.mem_of_find?_eq_some hx)
theorem pos_lowered {c : CM} {m : Int} : posC (lowered c m) := by
  intro e he
  unfold lowered at he
  obtain ⟨x, hx, rfl⟩ := List.mem_map.mp he
  have := of_decide_eq_true (List.mem_filter.mp hx).2
  show 0 < x.2 - m
  omega
theorem lowered_cons (e : Str × Int) (c : CM) (m : Int) : lowered (e :: c) m = if m < e.2 then (e.1, e.2 - m) :: lowered c m else lowered c m := by
  unfold lowered
  by_cases h : m < e.2
  · rw [if_pos h, List.filter_cons_of_pos (by exact decide_eq_true h), List.map_cons]
  · rw [if_neg h, List.filter_cons_of_neg (by rw [decide_eq_true_eq]; exact h)]
theorem sum_lowered {m : Int} : ∀ c : CM, (∀ e ∈ c, m ≤ e.2) → sumC (lowered c m) = sumC c - c.length * m
  | [], _ => by simp [lowered, sumC, valsC]
  | e :: c, h => by
    have ih := sum_lowered c fun x hx => h x (List.mem_cons_of_mem _ hx)
    have he := h e (List.mem_cons_self ..)
    rw [lowered_cons, sumC_cons, List.length_cons]
    have hm : ((c.length + 1 : Nat) : Int) * m = (c.length : Int) * m + m := by
      rw [Int.natCast_add, Int.add_mul]
      omega
    rw [hm]
    split
    · rw [sumC_cons, ih]
      show e.2 - m + _ = _
      omega
    · rw [ih]
      omega
/-- what a name has after the lowering -/
theorem get_lowered {c : CM} (nd : (keysC c).Nodup) (hp : posC c) {m : Int} (hm : 0 ≤ m) (n : Str) : getD0 (lowered c m) n = if m < getD0 c n then getD0 c n - m else 0 := by
  induction c with
  | nil =>
    show (0 : Int) = if m < 0 then 0 - m else 0
    rw [if_neg (by omega)]
  | cons e c ih =>
    obtain ⟨n1, n2⟩ := List.nodup_cons.mp (show (e.1 :: keysC c).Nodup from nd)
    have hp2 : posC c := fun x hx => hp x (List.mem_cons_of_mem _ hx)
    have ih := ih n2 hp2
    rw [lowered_cons]
    by_cases he : e.1 = n
    · have e1 : getD0 (e :: c) n = e.2 := by unfold getD0; rw [getC_cons_eq he]; rfl
      rw [e1]
      by_cases h : m < e.2
      · rw [if_pos h, if_pos h]
        unfold getD0
        rw [getC_cons_eq (e := (e.1, e.2 - m)) he]
        rfl
      · rw [if_neg h, if_neg h]
        have : n ∉ keysC (lowered c m) := fun z => n1 (by rw [he]; exact (lowered_keys c m).subset z)
        unfold getD0
        rw [get_none this]
        rfl
    · have e1 : getD0 (e :: c) n = getD0 c n := by unfold getD0; rw [getC_cons_ne he]
      rw [e1, ← ih]
      split
      · unfold getD0
        rw [getC_cons_ne (e := (e.1, e.2 - m)) he]
      · rfl
/-! ### the bounds, and that a coming keeps them -/
structure Bnd (room : Int) (c : CM) (gone total : Int) (t : CM) : Prop where
  nd : (keysC c).Nodup
  ln : (c.length : Int) ≤ room
  ndt : (keysC t).Nodup
  pos : posC c
  post : posC t
  g0 : 0 ≤ gone
  tot : sumC t = total
  sm : sumC c + (room + 1) * gone = total
  lo : ∀ n, getD0 c n ≤ getD0 t n
  hi : ∀ n, getD0 t n ≤ getD0 c n + gone
  few : (t.length : Int) ≤ room → gone = 0 ∧ ∀ n, getC c n = getC t n
theorem bnd_start (room : Int) (h : 1 ≤ room) : Bnd room [] 0 0 [] := ⟨List.nodup_nil, by show ((0 : Nat) : Int) ≤ room; omega, List.nodup_nil, (fun _ h => nomatch h), (fun _ h => nomatch h), Int.le_refl _, rfl, by show (0 : Int) + (room + 1) * 0 = 0; omega, fun _ => Int.le_refl _, fun _ => Int.le_refl _, fun _ => ⟨rfl, fun _ => rfl⟩⟩
theorem same_len {c t : CM} (nc : (keysC c).Nodup) (nt : (keysC t).Nodup) (h : ∀ n, getC c n = getC t n) : c.length = t.length := by
  have p : (keysC c).Perm (keysC t) := (List.perm_ext_iff_of_nodup nc nt).mpr fun n => by
    rw [← has_iff, ← has_iff, has_get, has_get, h]
  have := p.length_eq
  unfold keysC at this
  rw [List.length_map, List.length_map] at this
  exact this
theorem bnd_come {room gone total w : Int} {c t : CM} {n : Str} (B : Bnd room c gone total t) (hw : 1 ≤ w) : Bnd room (come room c n w).1 (gone + (come room c n w).2) (total + w) (putC t n (getD0 t n + w)) := by
  have t0 := pos_get B.post n
  have c0 := pos_get B.pos n
  have st : sumC (putC t n (getD0 t n + w)) = total + w := by
    rw [sum_put B.ndt, B.tot]
    omega
  have few_put : ∀ c' : CM, c' = putC c n (getD0 c n + w) → gone = 0 → (∀ m, getC c m = getC t m) → ∀ m, getC c' m = getC (putC t n (getD0 t n + w)) m := by
    rintro c' rfl g e m
    rw [getC_put, getC_put, e m]
    have : getD0 c n = getD0 t n := by unfold getD0; rw [e n]
    rw [this]
  have tl : (t.length : Int) ≤ ((putC t n (getD0 t n + w)).length : Int) := by
    rw [put_len]
    split <;> omega
  refine ⟨come_nodup B.nd, come_len B.ln, put_nodup B.ndt, ?_, pos_put B.post (by omega), ?_, st, ?_, ?_, ?_, ?_⟩
  · unfold come
    split
    · dsimp only
      split
      · refine pos_put pos_lowered ?_
        have := pos_get (pos_lowered (c := c) (m := minL w (valsC c))) n
        omega
      · exact pos_lowered
    · exact pos_put B.pos (by omega)
  all_goals unfold come
  all_goals split
  all_goals try dsimp only
  -- what is lost
  · rename_i h
    have := B.g0
    rcases minL_mem (valsC c) w with e | e
    · omega
    · unfold valsC at e
      obtain ⟨z, hz, ez⟩ := List.mem_map.mp e
      have := B.pos z hz
      unfold valsC
      omega
  · have := B.g0
    omega
  -- the sum
  · rename_i h
    obtain ⟨l1, l2⟩ := minL_le (valsC c) w
    generalize hmm : minL w (valsC c) = mm at l1 l2 ⊢
    have hk := no_key h.1
    have s1 := sum_lowered (m := mm) c fun e he => l2 e.2 (List.mem_map_of_mem he)
    rw [h.2] at s1
    have e0 : getD0 (lowered c mm) n = 0 := by
      unfold getD0
      rw [get_none fun z => hk ((lowered_keys c mm).subset z)]
      rfl
    have e1 : (room + 1) * (gone + mm) = (room + 1) * gone + room * mm + mm := by
      rw [Int.mul_add, Int.add_mul room 1 mm]
      omega
    have sm := B.sm
    rw [e1]
    split
    · rw [sum_put (lowered_nodup B.nd), s1, e0]
      omega
    · rw [s1]
      omega
  · rw [sum_put B.nd]
    have := B.sm
    rw [show gone + 0 = gone by omega]
    omega
  -- from below
  · rename_i h
    intro m
    obtain ⟨l1, l2⟩ := minL_le (valsC c) w
    have m0 : 0 ≤ minL w (valsC c) := by
      rcases minL_mem (valsC c) w with e | e
      · omega
      · unfold valsC at e
        obtain ⟨z, hz, ez⟩ := List.mem_map.mp e
        have := B.pos z hz
        unfold valsC
        omega
    generalize minL w (valsC c) = mm at l1 l2 m0 ⊢
    have hk := no_key h.1
    have e0 : getD0 (lowered c mm) n = 0 := by
      unfold getD0
      rw [get_none fun z => hk ((lowered_keys c mm).subset z)]
      rfl
    have gl := get_lowered B.nd B.pos m0 m
    have lo := B.lo m
    have pm := pos_get B.pos m
    by_cases hmn : m = n
    · subst hmn
      split
      · rw [getD0_put, getD0_put, e0, if_pos rfl, if_pos rfl]
        omega
      · rw [getD0_put, e0, if_pos rfl]
        omega
    · split
      · rw [getD0_put, getD0_put, if_neg hmn, if_neg hmn, gl]
        split <;> omega
      · rw [getD0_put, if_neg hmn, gl]
        split <;> omega
  · intro m
    rw [getD0_put, getD0_put]
    have := B.lo m
    have := B.lo n
    split <;> omega
  -- from above
  · rename_i h
    intro m
    obtain ⟨l1, l2⟩ := minL_le (valsC c) w
    have m0 : 0 ≤ minL w (valsC c) := by
      rcases minL_mem (valsC c) w with e | e
      · omega
      · unfold valsC at e
        obtain ⟨z, hz, ez⟩ := List.mem_map.mp e
        have := B.pos z hz
        unfold valsC
        omega
    generalize minL w (valsC c) = mm at l1 l2 m0 ⊢
    have hk := no_key h.1
    have e0 : getD0 (lowered c mm) n = 0 := by
      unfold getD0
      rw [get_none fun z => hk ((lowered_keys c mm).subset z)]
      rfl
    have ec : getD0 c n = 0 := by
      unfold getD0
      rw [get_none hk]
      rfl
    have gl := get_lowered B.nd B.pos m0 m
    have hi := B.hi m
    have hin := B.hi n
    have pm := pos_get B.pos m
    by_cases hmn : m = n
    · subst hmn
      split
      · rw [getD0_put, getD0_put, e0, if_pos rfl, if_pos rfl]
        omega
      · rw [getD0_put, e0, if_pos rfl]
        omega
    · split
      · rw [getD0_put, getD0_put, if_neg hmn, if_neg hmn, gl]
        split <;> omega
      · rw [getD0_put, if_neg hmn, gl]
        split <;> omega
  · intro m
    rw [getD0_put, getD0_put]
    have := B.hi m
    have := B.hi n
    split <;> omega
  -- few names
  · rename_i h
    intro hf
    obtain ⟨g, e⟩ := B.few (by omega)
    have sl := same_len B.nd B.ndt e
    have hnt : hasC t n = false := by
      rw [has_get, ← e n, ← has_get]
      exact h.1
    rw [put_len, hnt, if_neg (by decide)] at hf
    have := h.2
    omega
  · intro hf
    obtain ⟨g, e⟩ := B.few (by omega)
    exact ⟨by omega, few_put _ rfl g e⟩
/-! ### what a law asks of the bounds -/
theorem heavy_in {room gone total : Int} {c t : CM} (B : Bnd room c gone total t) {n : Str} (hr : 1 ≤ room) (h : total < getD0 t n * (room + 1)) : n ∈ keysC c ∧ total < (getD0 c n + gone) * (room + 1) := by
  have hi := B.hi n
  have p0 : ∀ e ∈ c, 0 < e.2 := B.pos
  have s0 : 0 ≤ sumC c := by
    have : ∀ c : CM, posC c → 0 ≤ sumC c := by
      intro c
      induction c with
      | nil => intro _; exact Int.le_refl _
      | cons e c ih =>
        intro hp
        rw [sumC_cons]
        have := ih fun x hx => hp x (List.mem_cons_of_mem _ hx)
        have := hp e (List.mem_cons_self ..)
        omega
    exact this c B.pos
  have h2 : getD0 t n * (room + 1) ≤ (getD0 c n + gone) * (room + 1) := Int.mul_le_mul_of_nonneg_right hi (by omega)
  refine ⟨Classical.byContradiction fun z => ?_, by omega⟩
  have e0 : getD0 c n = 0 := by
    unfold getD0
    rw [get_none z]
    rfl
  rw [e0, Int.zero_add, Int.mul_comm gone] at h2
  have := B.sm
  omega
theorem sure_in {room gone total : Int} {c t : CM} (B : Bnd room c gone total t) {n : Str} (hr : 1 ≤ room) (hk : n ∈ keysC c) (h : total < (getD0 c n + 0) * (room + 1)) : n ∈ keysC t ∧ total < getD0 t n * (room + 1) := by
  have lo := B.lo n
  rw [Int.add_zero] at h
  have h2 : getD0 c n * (room + 1) ≤ getD0 t n * (room + 1) := Int.mul_le_mul_of_nonneg_right lo (by omega)
  obtain ⟨v, hv, hv0⟩ := has_pos B.pos hk
  have e : getD0 c n = v := by unfold getD0; rw [hv]; rfl
  exact ⟨pos_has (by omega), by omega⟩
theorem inV_str (n : Str) (l : List Str) : inV (.str n) (l.map V.str) = true ↔ n ∈ l := by
  unfold inV
  rw [List.any_map, List.any_eq_true]
  constructor
  · rintro ⟨x, hx, h⟩
    have : (x == n) = true := h
    rw [← eq_of_beq this]
    exact hx
  · intro h
    exact ⟨n, h, beq_self_eq_true n⟩
theorem flat_strs (l : List Str) : (l.map V.str).all flatV = true := by
  rw [List.all_map, List.all_eq_true]
  intro x _
  rfl
end DK

set_option Elab.async false
set_option linter.all false
set_option maxRecDepth 100000
set_option maxHeartbeats 4000000
namespace DK
open PySem PySem.Spec PyProof.Rows L2
/-! ### a caught exception that is held on by a name -/
/-- an exception of the class cls stands at a, nobody throws it any more -/
def Held (cls : Value) (d : Option Addr) (a : Addr) : HO := .ext fun h => ∃ (oe : Obj) (vs : Array Value), h.get? a = some oe ∧ Zc cls d oe ∧ oe.data = .fields vs
theorem held_ok {P : Program} {w : World} {H : Hp} {h : Heap} {a : Addr} {cls : Value} {d : Option Addr} {oe : Obj} {vs : Array Value} (e : h.get? a = some oe) (z : Zc cls d oe) (hd : oe.data = .fields vs) : ObjOk P w H h a (Held cls d a) :=
  ⟨⟨oe, vs, e, z, hd⟩, ⟨oe, e⟩, fun _ _ ⟨o, v, q, r⟩ k => ⟨o, v, k o q, r⟩⟩
section
variable {X : Cx} {pins : List (Addr × Obj)} {σ : L2.St} {H : Hp} {s : Shared}
/-- what the heap holds beside, new since the entry, may be tracked from here on -/
theorem beside {a : Addr} {cls : Value} {d : Option Addr} {oe : Obj} {vs : Array Value} (I : Inv X pins σ H s) (there : s.heap.get? a = some oe) (z : Zc cls d oe) (flds : oe.data = .fields vs) (na : H a = none)
    (fresh : X.s_0.heap.get? a = none) (apart : ∀ p ∈ X.pn ++ pins, p.1 ≠ a) (nL : X.env.locals ≠ a) (nC : ∀ x c, X.env.cells.lookup x = some c → c ≠ a) : Inv X pins σ (upd H a (Held cls d a)) s := by
  have old : ∀ (b : Addr) (o : Obj), X.s_0.heap.get? b = some o → b ≠ a := by
    intro b o e same
    rw [same, fresh] at e
    exact nomatch e
  have other : ∀ {b : Addr} {o : HO}, H b = some o → b ≠ a := by
    intro b o e same
    rw [same, na] at e
    exact nomatch e
  refine { ok := I.ok, os := I.os, bare := I.bare, base := ?base, loc := I.loc, cell := I.cell, free := ?free, freeC := ?freeC, pin := ?pin, hok := ?hok, len := I.len }
  case base =>
    refine { keep := I.base.keep, slot := I.base.slot, free := ?_, there := I.base.there, tups := ?_, frzs := ?_, tbls := ?_ }
    · intro b o e n hx
      rw [upd_ne (old b o e)]
      exact I.base.free b o e n hx
    · intro b xs e
      have now := I.base.tups b xs e
      rw [upd_ne (other now)]
      exact now
    · intro b o u e
      have now := I.base.frzs b o u e
      rw [upd_ne (other now)]
      exact now
    · intro b ps e
      obtain ⟨more, now⟩ := I.base.tbls b ps e
      refine ⟨more, ?_⟩
      rw [upd_ne (other now)]
      exact now
  case free =>
    rw [upd_ne nL]
    exact I.free
  case freeC =>
    intro x c e
    rw [upd_ne (nC x c e)]
    exact I.freeC x c e
  case pin =>
    intro p hp
    obtain ⟨h1, h2, h3⟩ := I.pin p hp
    refine ⟨h1, ?_, h3⟩
    rw [upd_ne (apart p hp)]
    exact h2
  case hok =>
    intro b o e
    by_cases same : b = a
    · subst same
      rw [upd_same] at e
      obtain rfl := Option.some.inj e
      exact held_ok there z flds
    · rw [upd_ne same] at e
      refine (I.hok b o e).stay (fun _ _ _ q => q) (fun c q => ?_) (fun c xs q => ?_)
      · rw [upd_ne (other q)]
        exact q
      · rw [upd_ne (other q)]
        exact q
end
/-- what 'except x as n: y = n' wishes: slot i is n's, slot j is y's -/
def wHold (K : PySem.W.Frag) (len : Nat) (c : Value) (i j : Nat) (Wout : WX) (D : Ends) : WX := fun cls d σ H =>
  ∃ b, PySem.W.exmOne K cls c = some b ∧ (b = true → ∀ a, H a = none → σ.length = len → D.nx (((σ.set i (some (.ref a))).set j (some (.ref a))).set i none) (upd H a (Held cls d a))) ∧ (b = false → Wout cls d σ H)
section
variable {X : Cx} {x n y : Str} {c : Value} {i j : Nat} {body : List Stmt} {np pos pos' : Pos} {tb : WX → TS} {Wout : WX} {st : Stmt}
theorem ps_try_hold (hstack : X.stack = X.env :: X.outer) (hframe : X.env.frame = some X.env.locals) (hex : X.ex = []) (hN : X.N.Nodup) (hi : X.N[i]? = some n) (hlocal : X.env.kindOf n = some .local) (hname : Names X x c) (tk : Takes X Wout)
    (hbody : ∀ (W : WX) (pn : List (Addr × Obj)) (xe : Value → Shared → Prop), Takes (X.tr pn xe) W → PassesOwn (model X.prog X.w) X.A X.env xe → PSs (X.tr pn xe) body (tb W))
    (hsuite : ∀ (a : Addr) (pn : List (Addr × Obj)), PSs (X.suite a pn) [st] (tAsg (tVar i) (gName j))) :
    PS X (.Try body [.ExceptHandler (some (.Name x np)) (some n) [st] pos'] [] [] pos) (fun D σ H => tb (wHold X.K X.N.length c i j Wout D) D σ H) := by
  refine ⟨fun pins s σ H D I h => ?_⟩
  have ok := I.ok
  have frames : X.A.frames = some (X.env :: X.outer) := by rw [ok.frames, hstack]
  let caught : Value → Shared → Prop := fun e s₁ => wpAny (model X.prog X.w) X.A (noteFrame e X.env) (fun _ s₂ => wpAny (model X.prog X.w) X.A (setFlight e none)
    (fun _ s₃ => wpAny (model X.prog X.w) X.A (handleBy e X.env [.ExceptHandler (some (.Name x np)) (some n) [st] pos']) (SP X pins D) X.xe s₃) X.xe s₂) X.xe s₁
  refine wpAny_Try_except (wpAny_mono ((hbody (wHold X.K X.N.length c i j Wout D) (X.pn ++ pins) caught ?takes PassesOwn.looking).run [] s σ H D (I.toTry _) h) ?flows fun _ _ z => z)
  case flows =>
    intro f s1 ended
    cases f with
    | next =>
      obtain ⟨σ', H', J, q⟩ := ended
      exact wpAny_execs_nil ⟨σ', H', J.ofTry ok, q⟩
    | brk =>
      obtain ⟨σ', H', J, q⟩ := ended
      exact ⟨σ', H', J.ofTry ok, q⟩
    | cont =>
      obtain ⟨σ', H', J, q⟩ := ended
      exact ⟨σ', H', J.ofTry ok, q⟩
    | ret u =>
      obtain ⟨v, σ', H', J, r, q⟩ := ended
      exact ⟨v, σ', H', J.ofTry ok, r, q⟩
  case takes =>
    rintro u s' ⟨a, B, sI, pinsI, σ', H', cls, d, rfl, J, ground, upto, sky, na, os, bare, b, hasked, hyes, hno⟩
    have J : Inv X pins σ' H' sI := J.ofTry ok
    have sky : Sky B (X.env :: X.outer) a (Zc cls d) X.env.locals s'.heap := by
      rw [← hstack]
      exact sky
    show wpAny (model X.prog X.w) X.A (noteFrame (.ref a) X.env) _ _ _
    refine Sky.land Zc.steady frames hframe sky fun h3 fly3 up3 => ?_
    have all3 := upto.trans up3
    have J3 : Inv X pins σ' H' { s' with heap := h3 } := J.landed ground fly3.1 all3 os bare
    obtain ⟨oe3, vs3, he3, hz3, hd3⟩ := fly3.there
    have notFrame : a ∉ frs (X.env :: X.outer) := by
      intro hm
      obtain ⟨_, o2, e2, no⟩ := fly3.2.2.1.mem hm
      rw [he3] at e2
      obtain rfl := Option.some.inj e2
      exact no _ hd3
    have unborn : sI.heap.get? a = none := by
      cases e : sI.heap.get? a with
      | none => rfl
      | some o =>
        have inB := ground a o e (by rw [hstack]; exact notFrame)
        rw [fly3.2.1] at inB
        exact nomatch inB
    have fresh : X.s_0.heap.get? a = none := by
      cases e : X.s_0.heap.get? a with
      | none => rfl
      | some o =>
        obtain ⟨o2, e2⟩ := J.base.there a o e (by rw [hex]; exact fun z => nomatch z)
        rw [unborn] at e2
        exact nomatch e2
    have apart : ∀ p ∈ X.pn ++ pins, p.1 ≠ a := by
      intro p hp same
      have born := (J.pin p hp).1
      rw [same, unborn] at born
      exact nomatch born
    have nL : X.env.locals ≠ a := by
      intro same
      refine notFrame (List.mem_filterMap.mpr ⟨X.env, List.mem_cons_self, ?_⟩)
      rw [hframe, same]
    have nF : a ∉ X.fs := by
      intro hm
      obtain ⟨e, he, q⟩ := List.mem_filterMap.mp hm
      exact notFrame (List.mem_filterMap.mpr ⟨e, List.mem_cons_of_mem _ he, q⟩)
    have nC : ∀ x c, X.env.cells.lookup x = some c → c ≠ a := by
      intro x c e same
      obtain ⟨v, o, ho, _⟩ := J.cell x c e
      rw [same, unborn] at ho
      exact nomatch ho
    have in3 := J3.suite he3 hd3 na (Ne.symm nL) nF
    refine wpAny_handleBy_cons (codeAny_handlers_test ?_) (by intro q; cases q)
    have kind : PySem.W.Looks (model X.prog X.w) h3 (typeOf (.ref a)) cls := by
      intro A Q E s keeps q
      refine wpAny_typeOf_ref (keeps _ _ he3) ?_
      rw [hz3.1]
      exact q
    have answer := PySem.W.exm_one (M := model X.prog X.w) J3.kIn kind hasked
    have named : ∀ {Q : Value → Shared → Prop} {E : Value → Shared → Prop}, Q c { s' with heap := h3 } →
        wpAny (model X.prog X.w) (X.A.mark (some (.ref a))) (eval (.Name x np) X.env) Q E { s' with heap := h3 } := by
      intro Q E q
      obtain ⟨hg, hdbg, found | ⟨unfound, built, notName⟩⟩ := hname
      · exact ld_glob (X := X.suite a ((a, oe3) :: (X.pn ++ pins))) in3 hg found q hdbg
      · exact ld_blt (X := X.suite a ((a, oe3) :: (X.pn ++ pins))) in3 hg unfound built q notName hdbg
    refine named (answer.here ?_)
    cases b with
    | true =>
      refine codeAny_handlers_suite_as (HandSPX.lands_againZ fly3 fun h4 fly4 up4 => ?_)
      have J4 : Inv X pins σ' H' { s' with heap := h4 } := J.landed ground fly4.1 (all3.trans up4) os bare
      obtain ⟨oe4, vs4, he4, hz4, hd4⟩ := fly4.there
      have in4 := J4.suite he4 hd4 na (Ne.symm nL) nF
      refine store_ok (X := X.suite a ((a, oe4) :: (X.pn ++ pins))) (v := .ref a) in4 hN hi (.inl hlocal) rfl (fun s5 in5 => ?_) (.inr hlocal)
      have inside : i < σ'.length := by
        rw [J4.len]
        exact (List.getElem?_eq_some_iff.mp hi).1
      have start : tAsg (tVar i) (gName j) { nx := fun σ6 H6 => σ6 = (σ'.set i (some (.ref a))).set j (some (.ref a)) ∧ H6 = H', rt := fun _ _ => False } (σ'.set i (some (.ref a))) H' :=
        ⟨.ref a, List.getElem?_set_self inside, rfl, rfl⟩
      refine wpAny_mono ((hsuite a ((a, oe4) :: (X.pn ++ pins))).run [] s5 _ H' _ in5 start) (fun f s6 ended => ?_) (fun _ _ z => False.elim z)
      cases f with
      | next =>
        obtain ⟨σ6, H6, in6, rfl, rfl⟩ := ended
        have pinned := in6.pin (a, oe4) (List.mem_append_left _ (List.mem_cons_self ..))
        have J6 := beside (in6.unsuite ok) pinned.1 hz4 hd4 pinned.2.1 fresh apart nL nC
        exact gone_ok J6 hN hi hlocal fun s7 J7 => ⟨_, _, J7, hyes rfl a na J4.len⟩
      | brk =>
        obtain ⟨_, _, _, z⟩ := ended
        exact z.elim
      | cont =>
        obtain ⟨_, _, _, z⟩ := ended
        exact z.elim
      | ret u =>
        obtain ⟨_, _, _, _, _, z⟩ := ended
        exact z.elim
    | false =>
      show wpAny _ X.A (handleBy (.ref a) X.env []) _ _ _
      refine wpAny_handleBy_nil ?_
      obtain ⟨_, _, _, oe, vs, T, oT, ts, he, hz, hd, h1, hr⟩ := id fly3
      have on : wpAny (model X.prog X.w) X.A (setFlight (.ref a) X.env.frame) (fun _ s4 => wpAny (model X.prog X.w) X.A (throw (.ref a) : Sem Flow) (SP X pins D) X.xe s4) X.xe { s' with heap := h3 } := by
        rw [hframe]
        refine HandSPX.setFlight_upZ fly3 fun h4 held4 up4 => wpAny_throw (tk _ _ ⟨a, B, sI, pins, σ', H', cls, d, rfl, J, ground, all3.trans up4, ?_, na, os, bare, hno rfl⟩)
        rw [hstack]
        exact .inr (.inr held4)
      unfold PySem.passOn
      refine wpAny_bind (wpAny_field he hd h1 ?_)
      have some' : ¬ ((Value.ref T == Value.none) = true) := by simp
      rw [if_neg some']
      first
        | exact wpAny_bind (wpAny_pure (wpAny_bind on))
        | exact wpAny_bind on
end
/-! ### isinstance of such an exception -/
/-- isinstance(e, c) -/
def rIsX (K : PySem.W.Frag) : List V → Hp → VK → Prop := fun xs H Q => ∃ (a D : Addr) (c : V) (cv : Value) (b : Bool), xs = [.ref a, c] ∧ H a = some (Held (.ref D) none a) ∧ ExcC K D ∧ ClsV c cv ∧ PySem.W.kitOne K (.ref D) cv = some b ∧ Q (.bl b) H
/-- isinstance(e, (c1, c2, ..)) -/
def rIsXT (K : PySem.W.Frag) : List V → Hp → VK → Prop := fun xs H Q => ∃ (a D tp : Addr) (cs : List V) (us : List Value) (b : Bool), xs = [.ref a, .ref tp] ∧ H a = some (Held (.ref D) none a) ∧ H tp = some (.tup cs) ∧ ExcC K D ∧ Paired ClsV cs us ∧ PySem.W.kitAny K (.ref D) us = some b ∧ Q (.bl b) H
section
variable {X : Cx} {pins : List (Addr × Obj)} {σ : L2.St} {H : Hp} {s : Shared}
theorem held_at {a D : Addr} (I : Inv X pins σ H s) (h : H a = some (Held (.ref D) none a)) : ∃ oe, PySem.W.InstAt s.heap a oe D none := by
  obtain ⟨⟨oc, od, dat, sl⟩, vs, e, ⟨z1, z2⟩, hd⟩ := (show ObjOk X.prog X.w H s.heap a (Held (.ref D) none a) from I.hok a _ h).1
  dsimp only at z1 z2 hd
  subst z1 z2 hd
  exact ⟨_, e, rfl, rfl, trivial⟩
theorem call_isX : CallR X (.builtin "isinstance") (rIsX X.K) := by
  intro pins s σ H xs us Q I r h
  obtain ⟨a, D, c, cv, b, rfl, ha, C, k, e, q⟩ := h
  obtain ⟨u1, u2, rfl, r1, r2⟩ := vals2 r
  obtain rfl : u1 = Value.ref a := r1
  obtain rfl := k.eq r2
  obtain ⟨oe, J⟩ := held_at I ha
  exact PySem.W.kia_one (PySem.W.handS_kitx_exc C.hg C.hk C.hs C.hd C.ha C.hn C.ht C.hm) I.kIn J e (fun z => nomatch z) fun tk => ⟨.bl b, H, I.tok tk, rfl, q⟩
theorem call_isXT : CallR X (.builtin "isinstance") (rIsXT X.K) := by
  intro pins s σ H xs us Q I r h
  obtain ⟨a, D, tp, cs, ws, b, rfl, ha, hT, C, k, e, q⟩ := h
  obtain ⟨u1, u2, rfl, r1, r2⟩ := vals2 r
  obtain rfl : u1 = Value.ref a := r1
  obtain rfl : u2 = Value.ref tp := r2
  obtain ⟨oe, J⟩ := held_at I ha
  obtain ⟨_, its, rv, ⟨oc, od, dt, sl⟩, h1, h2, n, h3⟩ := (show ObjOk X.prog X.w H s.heap tp (.tup cs) from I.hok tp _ hT)
  obtain rfl := ClsV.all k rv
  dsimp only at h2 h3
  subst h2 h3
  exact PySem.W.kia_tup (PySem.W.handS_kitx_exc C.hg C.hk C.hs C.hd C.ha C.hn C.ht C.hm) I.kIn J h1 e (fun z => nomatch z) fun tk => ⟨.bl b, H, I.tok tk, rfl, q⟩
end
end DK

set_option Elab.async false
set_option linter.all false
set_option maxRecDepth 100000
set_option maxHeartbeats 4000000
namespace DK
open PySem PySem.Spec PyProof.Rows L2
/-! ### what is taken from every count, where more names stand than drawers -/
def ige (x y : Int) : Bool := decide (y ≤ x)
/-- falling -/
def falls (l : List Int) : List Int := l.mergeSort ige
theorem falls_perm (l : List Int) : (falls l).Perm l := List.mergeSort_perm _ _
theorem ige_tr (a b c : Int) (h1 : ige a b = true) (h2 : ige b c = true) : ige a c = true := decide_eq_true (Int.le_trans (of_decide_eq_true h2) (of_decide_eq_true h1))
theorem ige_tot (a b : Int) : (ige a b || ige b a) = true := by
  rw [Bool.or_eq_true]
  rcases Int.le_total a b with h | h
  · exact .inr (decide_eq_true h)
  · exact .inl (decide_eq_true h)
theorem falls_pw (l : List Int) : (falls l).Pairwise fun x y => ige x y = true := List.pairwise_mergeSort ige_tr ige_tot l
theorem falls_eq {ys l : List Int} (p : ys.Perm l) (h : ys.Pairwise (· ≥ ·)) : ys = falls l :=
  (p.trans (falls_perm l).symm).eq_of_pairwise (le := fun x y => x ≥ y) (fun a b _ _ h1 h2 => Int.le_antisymm h2 h1) h ((falls_pw l).imp fun h => of_decide_eq_true h)
def cutAt (room : Int) (c : CM) : Int := if room < (c.length : Int) then (falls (valsC c)).getD room.toNat 0 else 0
theorem vals_len (c : CM) : (valsC c).length = c.length := by unfold valsC; rw [List.length_map]
theorem falls_len (c : CM) : (falls (valsC c)).length = c.length := by rw [(falls_perm _).length_eq, vals_len]
theorem cut_at {room : Int} {c : CM} (h0 : 0 ≤ room) (h : room < (c.length : Int)) : (falls (valsC c))[room.toNat]? = some (cutAt room c) := by
  unfold cutAt
  rw [if_pos h, List.getD_eq_getElem?_getD]
  have hl : room.toNat < (falls (valsC c)).length := by rw [falls_len]; omega
  rw [List.getElem?_eq_getElem hl]
  rfl
theorem cut_pos {room : Int} {c : CM} (h0 : 0 ≤ room) (hp : posC c) : 0 ≤ cutAt room c := by
  by_cases h : room < (c.length : Int)
  · have hm := List.mem_of_getElem? (cut_at h0 h)
    obtain ⟨e, he, h1⟩ := List.mem_map.mp ((falls_perm _).mem_iff.mp hm)
    have := hp e he
    omega
  · unfold cutAt
    rw [if_neg h]
    exact Int.le_refl _
/-- no more stand behind than there are drawers -/
theorem cut_len {room : Int} {c : CM} (h0 : 0 ≤ room) : ((lowered c (cutAt room c)).length : Int) ≤ room := by
  by_cases h : room < (c.length : Int)
  · have hm := cut_at h0 h
    generalize cutAt room c = m at hm
    have e1 : (lowered c m).length = ((valsC c).filter fun x => decide (m < x)).length := by
      unfold lowered valsC
      rw [List.length_map, List.filter_map, List.length_map]
      rfl
    have e2 := ((falls_perm (valsC c)).filter fun x => decide (m < x)).length_eq
    have split : falls (valsC c) = (falls (valsC c)).take room.toNat ++ (falls (valsC c)).drop room.toNat := (List.take_append_drop _ _).symm
    have dropNil : ((falls (valsC c)).drop room.toNat).filter (fun x => decide (m < x)) = [] := by
      rw [List.filter_eq_nil_iff]
      intro x hx hlt
      have hlt := of_decide_eq_true hlt
      obtain ⟨k, hk⟩ := List.mem_iff_getElem?.mp hx
      rw [List.getElem?_drop] at hk
      obtain ⟨hr, er⟩ := List.getElem?_eq_some_iff.mp hm
      obtain ⟨hj, ej⟩ := List.getElem?_eq_some_iff.mp hk
      by_cases hk0 : k = 0
      · subst hk0
        simp only [Nat.add_zero] at ej
        rw [er] at ej
        omega
      · have := of_decide_eq_true (List.pairwise_iff_getElem.mp (falls_pw (valsC c)) room.toNat (room.toNat + k) hr hj (by omega))
        rw [er, ej] at this
        omega
    rw [split, List.filter_append, dropNil, List.append_nil] at e2
    have l1 := List.length_filter_le (fun x => decide (m < x)) ((falls (valsC c)).take room.toNat)
    rw [List.length_take] at l1
    omega
  · have := lowered_len c (cutAt room c)
    omega
theorem lowered_zero {c : CM} (hp : posC c) : lowered c 0 = c := by
  induction c with
  | nil => rfl
  | cons e c ih =>
    rw [lowered_cons, if_pos (hp e (List.mem_cons_self ..)), ih fun x hx => hp x (List.mem_cons_of_mem _ hx)]
    rw [Int.sub_zero]
theorem cut_few {room : Int} {c : CM} (h : ¬ room < (c.length : Int)) : cutAt room c = 0 := by
  unfold cutAt
  rw [if_neg h]
/-! ### the order of a table does not matter -/
theorem perm_of_get {a b : CM} (na : (keysC a).Nodup) (nb : (keysC b).Nodup) (h : ∀ n, getC a n = getC b n) : a.Perm b := by
  have of : ∀ l : CM, (keysC l).Nodup → l.Nodup := fun l h => List.Pairwise.imp (fun h e => h (by rw [e])) (List.pairwise_map.mp h)
  have da := of a na
  have db := of b nb
  refine (List.perm_ext_iff_of_nodup da db).mpr fun e => ?_
  obtain ⟨n, v⟩ := e
  rw [← getC_mem na, ← getC_mem nb, h]
theorem vals_perm {a b : CM} (p : a.Perm b) : (valsC a).Perm (valsC b) := p.map _
theorem cut_perm {room : Int} {a b : CM} (p : a.Perm b) : cutAt room a = cutAt room b := by
  have e : falls (valsC a) = falls (valsC b) := falls_eq ((falls_perm _).trans (vals_perm p)) ((falls_pw _).imp fun h => of_decide_eq_true h)
  unfold cutAt
  rw [p.length_eq, e]
theorem lowered_perm {a b : CM} (p : a.Perm b) (m : Int) : (lowered a m).Perm (lowered b m) := (p.filter _).map _
theorem pos_perm {a b : CM} (p : a.Perm b) (h : posC b) : posC a := fun e he => h e (p.mem_iff.mp he)
theorem nodup_perm {a b : CM} (p : a.Perm b) (h : (keysC b).Nodup) : (keysC a).Nodup := (perm_keys p).nodup_iff.mpr h
theorem put_perm {a b : CM} (nb : (keysC b).Nodup) (p : a.Perm b) (n : Str) (v : Int) : (putC a n v).Perm (putC b n v) :=
  perm_of_get (put_nodup (nodup_perm p nb)) (put_nodup nb) fun m => by rw [getC_put, getC_put, getC_perm nb p]
theorem minL_perm {a b : List Int} (p : a.Perm b) (w : Int) : minL w a = minL w b := by
  obtain ⟨h1, h2⟩ := minL_le a w
  refine minL_uniq ?_ h1 fun y hy => h2 y (p.mem_iff.mpr hy)
  rcases minL_mem a w with h | h
  · exact .inl h
  · exact .inr (p.mem_iff.mp h)
theorem has_perm {a b : CM} (p : a.Perm b) (n : Str) : hasC a n = hasC b n := by
  rw [Bool.eq_iff_iff, has_iff, has_iff]
  exact (perm_keys p).mem_iff
theorem getD0_perm {a b : CM} (nb : (keysC b).Nodup) (p : a.Perm b) (n : Str) : getD0 a n = getD0 b n := by
  unfold getD0
  rw [getC_perm nb p]
theorem come_perm {a b : CM} (nb : (keysC b).Nodup) (p : a.Perm b) (room : Int) (n : Str) (w : Int) : (come room a n w).1.Perm (come room b n w).1 ∧ (come room a n w).2 = (come room b n w).2 := by
  have e1 := has_perm p n
  have e2 := p.length_eq
  have e3 := minL_perm (vals_perm p) w
  unfold come
  rw [e1, e2, e3]
  split
  · dsimp only
    refine ⟨?_, rfl⟩
    have pl := lowered_perm p (minL w (valsC b))
    rw [getD0_perm (lowered_nodup nb) pl]
    split
    · exact put_perm (lowered_nodup nb) pl n _
    · exact pl
  · rw [getD0_perm nb p]
    exact ⟨put_perm nb p n _, rfl⟩
theorem pos_come {room w : Int} {c : CM} {n : Str} (hp : posC c) (hw : 0 < w) : posC (come room c n w).1 := by
  unfold come
  split
  · dsimp only
    split
    · refine pos_put pos_lowered ?_
      have := pos_get (pos_lowered (c := c) (m := minL w (valsC c))) n
      omega
    · exact pos_lowered
  · refine pos_put hp ?_
    have := pos_get hp n
    omega
/-! ### one table poured into another -/
def addC (a b : CM) : CM := b.foldl (fun acc e => putC acc e.1 (getD0 acc e.1 + e.2)) a
theorem add_nodup : ∀ (b : CM) {a : CM}, (keysC a).Nodup → (keysC (addC a b)).Nodup
  | [], _, h => h
  | e :: b, a, h => add_nodup b (a := putC a e.1 (getD0 a e.1 + e.2)) (put_nodup h)
theorem add_get : ∀ (b : CM) (a : CM) (n : Str), (keysC b).Nodup → getC (addC a b) n = match getC b n with | some v => some (getD0 a n + v) | none => getC a n
  | [], a, n, _ => rfl
  | e :: b, a, n, nd => by
    obtain ⟨n1, n2⟩ := List.nodup_cons.mp (show (e.1 :: keysC b).Nodup from nd)
    have ih := add_get b (putC a e.1 (getD0 a e.1 + e.2)) n n2
    show getC (addC (putC a e.1 (getD0 a e.1 + e.2)) b) n = _
    rw [ih, getC_put, getD0_put]
    by_cases h : e.1 = n
    · subst h
      rw [get_none n1, getC_cons_eq rfl]
      dsimp only
      rw [if_pos rfl]
    · rw [getC_cons_ne h, if_neg (fun z => h z.symm), if_neg (fun z => h z.symm)]
theorem add_perm {a b a' b' : CM} (na : (keysC a').Nodup) (nb : (keysC b').Nodup) (pa : a.Perm a') (pb : b.Perm b') : (addC a b).Perm (addC a' b') :=
  perm_of_get (add_nodup b (nodup_perm pa na)) (add_nodup b' na) fun n => by
    rw [add_get b a n (nodup_perm pb nb), add_get b' a' n nb, getC_perm nb pb, getC_perm na pa, getD0_perm na pa]
theorem add_pos : ∀ (b : CM) {a : CM}, posC a → posC b → posC (addC a b)
  | [], _, h, _ => h
  | e :: b, a, h, h2 => add_pos b (a := putC a e.1 (getD0 a e.1 + e.2)) (pos_put h (by have := pos_get h e.1; have := h2 e (List.mem_cons_self ..); omega)) fun x hx => h2 x (List.mem_cons_of_mem _ hx)
theorem add_len : ∀ (b a : CM), (addC a b).length ≤ a.length + b.length
  | [], a => Nat.le_refl _
  | e :: b, a => by
    have h := add_len b (putC a e.1 (getD0 a e.1 + e.2))
    have h2 := put_len a e.1 (getD0 a e.1 + e.2)
    show (addC (putC a e.1 (getD0 a e.1 + e.2)) b).length ≤ _
    rw [List.length_cons]
    split at h2 <;> omega
theorem add_keys : ∀ (b a : CM) (n : Str), n ∈ keysC (addC a b) → n ∈ keysC a ∨ n ∈ keysC b
  | [], _, _, h => .inl h
  | e :: b, a, n, h => by
    rcases add_keys b (putC a e.1 (getD0 a e.1 + e.2)) n h with h | h
    · rw [keys_put] at h
      split at h
      · exact .inl h
      · rcases List.mem_append.mp h with h | h
        · exact .inl h
        · rw [List.mem_singleton.mp h]
          exact .inr (List.mem_cons_self ..)
    · exact .inr (List.mem_cons_of_mem _ h)
/-! ### a dict that an expression has just made, walked while it is not written -/
def tFrz (te : TE) : TE := fun σ H Q => te σ H fun x H1 => ∃ (d : Addr) (u : HO), x = .ref d ∧ H1 d = some u ∧ Mut (some u) ∧ ∀ od, Q x (upd H1 d (.frz od u))
theorem pe_frz {X : Cx} {e : Expr} {te : TE} (h : PE X e te) : PE X e (tFrz te) := by
  refine ⟨fun pins s σ H Q I hw => ?_⟩
  refine thn (h.run pins s σ H _ I hw) fun v s1 ⟨x, H1, I1, r, d, u, ex, hd, mu, q⟩ => ?_
  obtain ⟨od, I2⟩ := I1.lock hd mu
  exact ⟨x, _, I2, r, q od⟩
end DK

set_option Elab.async false
set_option linter.all false
set_option maxRecDepth 100000
set_option maxHeartbeats 4000000
namespace DK
open PySem PySem.Spec PyProof.Rows L2
/-! ### bounds that a coming, a pouring and a cut keep -/
structure Bn (room : Int) (c : CM) (gone total : Int) (t : CM) : Prop where
  nd : (keysC c).Nodup
  ndt : (keysC t).Nodup
  pos : posC c
  post : posC t
  g0 : 0 ≤ gone
  tot : sumC t = total
  sm : sumC c + (room + 1) * gone ≤ total
  lo : ∀ n, getD0 c n ≤ getD0 t n
  hi : ∀ n, getD0 t n ≤ getD0 c n + gone
theorem bn_start (room : Int) : Bn room [] 0 0 [] := ⟨List.nodup_nil, List.nodup_nil, (fun _ h => nomatch h), (fun _ h => nomatch h), Int.le_refl _, rfl, by show (0 : Int) + (room + 1) * 0 ≤ 0; omega, fun _ => Int.le_refl _, fun _ => Int.le_refl _⟩
theorem sum_add : ∀ (b : CM) {a : CM}, (keysC a).Nodup → sumC (addC a b) = sumC a + sumC b
  | [], a, _ => by
    show sumC a = sumC a + sumC []
    show sumC a = sumC a + 0
    omega
  | e :: b, a, h => by
    have ih := sum_add b (a := putC a e.1 (getD0 a e.1 + e.2)) (put_nodup h)
    show sumC (addC (putC a e.1 (getD0 a e.1 + e.2)) b) = _
    rw [ih, sum_put h, sumC_cons]
    omega
theorem get_add {a b : CM} (nb : (keysC b).Nodup) (n : Str) : getD0 (addC a b) n = getD0 a n + getD0 b n := by
  have h := add_get b a n nb
  show (getC (addC a b) n).getD 0 = _
  rw [h]
  have e : getD0 b n = (getC b n).getD 0 := rfl
  rw [e]
  cases getC b n with
  | none =>
    show getD0 a n = getD0 a n + 0
    omega
  | some v => rfl
/-- two together, not yet cut -/
theorem bn_add {room g1 T1 g2 T2 : Int} {c1 t1 c2 t2 : CM} (A : Bn room c1 g1 T1 t1) (B : Bn room c2 g2 T2 t2) : Bn room (addC c1 c2) (g1 + g2) (T1 + T2) (addC t1 t2) := by
  refine ⟨add_nodup _ A.nd, add_nodup _ A.ndt, add_pos _ A.pos B.pos, add_pos _ A.post B.post, by have := A.g0; have := B.g0; omega, ?_, ?_, fun n => ?_, fun n => ?_⟩
  · rw [sum_add _ A.ndt, A.tot, B.tot]
  · rw [sum_add _ A.nd, Int.mul_add]
    have := A.sm
    have := B.sm
    omega
  · rw [get_add B.nd, get_add B.ndt]
    have := A.lo n
    have := B.lo n
    omega
  · rw [get_add B.nd, get_add B.ndt]
    have := A.hi n
    have := B.hi n
    omega
theorem bn_perm {room g T : Int} {c c' t : CM} (p : c'.Perm c) (B : Bn room c g T t) : Bn room c' g T t :=
  ⟨nodup_perm p B.nd, B.ndt, pos_perm p B.pos, B.post, B.g0, B.tot, by rw [sum_perm' p]; exact B.sm, fun n => by rw [getD0_perm B.nd p]; exact B.lo n, fun n => by rw [getD0_perm B.nd p]; exact B.hi n⟩
where
  sum_perm' {c c' : CM} (p : c'.Perm c) : sumC c' = sumC c := by
    have : ∀ {l m : List Int}, l.Perm m → l.sum = m.sum := by
      intro l m q
      induction q with
      | nil => rfl
      | cons x _ ih => rw [List.sum_cons, List.sum_cons, ih]
      | swap x y l =>
        simp only [List.sum_cons]
        omega
      | trans _ _ h1 h2 => exact h1.trans h2
    exact this (p.map _)
def minS (m : Int) (l : List Int) : Int := (l.map fun x => min x m).sum
theorem minS_cons (m x : Int) (l : List Int) : minS m (x :: l) = min x m + minS m l := by
  unfold minS
  rw [List.map_cons, List.sum_cons]
theorem minS_pos {m : Int} (hm : 0 ≤ m) : ∀ l : List Int, (∀ x ∈ l, 0 ≤ x) → 0 ≤ minS m l
  | [], _ => Int.le_refl _
  | x :: l, h => by
    rw [minS_cons]
    have := minS_pos hm l fun y hy => h y (List.mem_cons_of_mem _ hy)
    have := h x (List.mem_cons_self ..)
    omega
theorem minS_ge {m : Int} (hm : 0 ≤ m) : ∀ (l : List Int) (k : Nat), k ≤ l.length → (∀ i x, i < k → l[i]? = some x → m ≤ x) → (∀ x ∈ l, 0 ≤ x) → (k : Int) * m ≤ minS m l
  | l, 0, _, _, h => by
    have := minS_pos hm l h
    simp only [Int.natCast_zero, Int.zero_mul]
    exact this
  | [], k + 1, hk, _, _ => by simp at hk
  | x :: l, k + 1, hk, h1, h => by
    rw [minS_cons]
    have ih := minS_ge hm l k (by simp at hk; omega) (fun i y hi hy => h1 (i + 1) y (by omega) (by rw [List.getElem?_cons_succ]; exact hy)) fun y hy => h y (List.mem_cons_of_mem _ hy)
    have hx := h1 0 x (by omega) rfl
    have e : ((k + 1 : Nat) : Int) * m = (k : Int) * m + m := by
      rw [Int.natCast_add, Int.add_mul]
      omega
    rw [e]
    omega
theorem minS_perm {m : Int} {a b : List Int} (p : a.Perm b) : minS m a = minS m b := by
  unfold minS
  have q := p.map fun x => min x m
  generalize a.map (fun x => min x m) = l at q
  generalize b.map (fun x => min x m) = l' at q
  induction q with
  | nil => rfl
  | cons x _ ih => rw [List.sum_cons, List.sum_cons, ih]
  | swap x y l =>
    simp only [List.sum_cons]
    omega
  | trans _ _ h1 h2 => exact h1.trans h2
theorem lowered_minS (m : Int) : ∀ c : CM, sumC (lowered c m) + minS m (valsC c) = sumC c
  | [] => rfl
  | e :: c => by
    have ih := lowered_minS m c
    show sumC (lowered (e :: c) m) + minS m (e.2 :: valsC c) = _
    rw [minS_cons, lowered_cons, sumC_cons]
    split
    · rw [sumC_cons]
      show e.2 - m + _ + _ = _
      omega
    · omega
/-- each of one more than the drawers loses the cut -/
theorem cut_sum {room : Int} {c : CM} (h0 : 0 ≤ room) (hp : posC c) : sumC (lowered c (cutAt room c)) + (room + 1) * cutAt room c ≤ sumC c := by
  have m0 := cut_pos h0 hp
  have e := lowered_minS (cutAt room c) c
  by_cases h : room < (c.length : Int)
  · have hm := cut_at h0 h
    generalize cutAt room c = m at hm m0 e ⊢
    have hlen := falls_len c
    obtain ⟨hr, er⟩ := List.getElem?_eq_some_iff.mp hm
    have k := minS_ge m0 (falls (valsC c)) (room.toNat + 1) (by omega) (fun i x hi hx => by
      obtain ⟨hj, ej⟩ := List.getElem?_eq_some_iff.mp hx
      by_cases hir : i = room.toNat
      · subst hir
        rw [er] at ej
        omega
      · have := of_decide_eq_true (List.pairwise_iff_getElem.mp (falls_pw (valsC c)) i room.toNat hj hr (by omega))
        rw [er, ej] at this
        exact this) (fun x hx => by
      obtain ⟨y, hy, rfl⟩ := List.mem_map.mp ((falls_perm _).mem_iff.mp hx)
      have := hp y hy
      omega)
    rw [minS_perm (falls_perm (valsC c))] at k
    have er2 : ((room.toNat + 1 : Nat) : Int) = room + 1 := by omega
    rw [er2] at k
    omega
  · rw [cut_few h, lowered_zero hp]
    omega
theorem bn_cut {room g T : Int} {c t : CM} (h0 : 0 ≤ room) (B : Bn room c g T t) : Bn room (lowered c (cutAt room c)) (g + cutAt room c) T t := by
  have m0 := cut_pos h0 B.pos
  have cs := cut_sum h0 B.pos
  refine ⟨lowered_nodup B.nd, B.ndt, pos_lowered, B.post, by have := B.g0; omega, B.tot, ?_, fun n => ?_, fun n => ?_⟩
  · have := B.sm
    rw [Int.mul_add]
    omega
  · rw [get_lowered B.nd B.pos m0]
    have := B.lo n
    have := pos_get B.post n
    split <;> omega
  · rw [get_lowered B.nd B.pos m0]
    have := B.hi n
    split <;> omega
theorem bn_less {room room' g T : Int} {c t : CM} (h : room' ≤ room) (B : Bn room c g T t) : Bn room' c g T t := by
  refine ⟨B.nd, B.ndt, B.pos, B.post, B.g0, B.tot, ?_, B.lo, B.hi⟩
  have h1 : (room' + 1) * g ≤ (room + 1) * g := Int.mul_le_mul_of_nonneg_right (by omega) B.g0
  have := B.sm
  omega
theorem bn_come {room gone total w : Int} {c t : CM} {n : Str} (B : Bn room c gone total t) (hl : (c.length : Int) ≤ room) (hw : 1 ≤ w) : Bn room (come room c n w).1 (gone + (come room c n w).2) (total + w) (putC t n (getD0 t n + w)) := by
  have t0 := pos_get B.post n
  have c0 := pos_get B.pos n
  have st : sumC (putC t n (getD0 t n + w)) = total + w := by
    rw [sum_put B.ndt, B.tot]
    omega
  have sm := B.sm
  have g0 := B.g0
  have pc := pos_come (room := room) (n := n) B.pos (show 0 < w by omega)
  by_cases h : hasC c n = false ∧ (c.length : Int) = room
  · obtain ⟨l1, l2⟩ := minL_le (valsC c) w
    have m0 : 0 ≤ minL w (valsC c) := by
      rcases minL_mem (valsC c) w with e | e
      · omega
      · obtain ⟨z, hz, ez⟩ := List.mem_map.mp e
        have := B.pos z hz
        omega
    have ec : come room c n w = (if 0 < w - minL w (valsC c) then putC (lowered c (minL w (valsC c))) n (getD0 (lowered c (minL w (valsC c))) n + (w - minL w (valsC c))) else lowered c (minL w (valsC c)), minL w (valsC c)) := by
      unfold come
      rw [if_pos h]
    rw [ec] at pc ⊢
    dsimp only at pc ⊢
    have hk := no_key h.1
    have s1 := sum_lowered (m := minL w (valsC c)) c fun e he => l2 e.2 (List.mem_map_of_mem he)
    rw [h.2] at s1
    generalize minL w (valsC c) = mm at l1 l2 m0 s1 pc ⊢
    have e0 : getD0 (lowered c mm) n = 0 := by
      unfold getD0
      rw [get_none fun z => hk ((lowered_keys c mm).subset z)]
      rfl
    have ecn : getD0 c n = 0 := by
      unfold getD0
      rw [get_none hk]
      rfl
    have e1 : (room + 1) * (gone + mm) = (room + 1) * gone + room * mm + mm := by
      rw [Int.mul_add, Int.add_mul room 1 mm]
      omega
    have hin := B.hi n
    refine ⟨?_, put_nodup B.ndt, pc, pos_put B.post (by omega), by omega, st, ?_, fun m => ?_, fun m => ?_⟩
    · split
      · exact put_nodup (lowered_nodup B.nd)
      · exact lowered_nodup B.nd
    · rw [e1]
      split
      · rw [sum_put (lowered_nodup B.nd), s1, e0]
        omega
      · rw [s1]
        omega
    · have gl := get_lowered B.nd B.pos m0 m
      have lo := B.lo m
      have pm := pos_get B.pos m
      by_cases hmn : m = n
      · subst hmn
        split
        · rw [getD0_put, getD0_put, e0, if_pos rfl, if_pos rfl]
          omega
        · rw [getD0_put, e0, if_pos rfl]
          omega
      · split
        · rw [getD0_put, getD0_put, if_neg hmn, if_neg hmn, gl]
          split <;> omega
        · rw [getD0_put, if_neg hmn, gl]
          split <;> omega
    · have gl := get_lowered B.nd B.pos m0 m
      have hi := B.hi m
      have pm := pos_get B.pos m
      by_cases hmn : m = n
      · subst hmn
        split
        · rw [getD0_put, getD0_put, e0, if_pos rfl, if_pos rfl]
          omega
        · rw [getD0_put, e0, if_pos rfl]
          omega
      · split
        · rw [getD0_put, getD0_put, if_neg hmn, if_neg hmn, gl]
          split <;> omega
        · rw [getD0_put, if_neg hmn, gl]
          split <;> omega
  · have ec : come room c n w = (putC c n (getD0 c n + w), 0) := by
      unfold come
      rw [if_neg h]
    rw [ec] at pc ⊢
    dsimp only at pc ⊢
    refine ⟨put_nodup B.nd, put_nodup B.ndt, pc, pos_put B.post (by omega), by omega, st, ?_, fun m => ?_, fun m => ?_⟩
    · rw [sum_put B.nd, show gone + 0 = gone by omega]
      omega
    · rw [getD0_put, getD0_put]
      have := B.lo m
      have := B.lo n
      split <;> omega
    · rw [getD0_put, getD0_put]
      have := B.hi m
      have := B.hi n
      split <;> omega
theorem bn_sum_pos {c : CM} (h : posC c) : 0 ≤ sumC c := by
  induction c with
  | nil => exact Int.le_refl _
  | cons e c ih =>
    rw [sumC_cons]
    have := ih fun x hx => h x (List.mem_cons_of_mem _ hx)
    have := h e (List.mem_cons_self ..)
    omega
/-- a heavy name may be shown -/
theorem bn_heavy {room gone total : Int} {c t : CM} (B : Bn room c gone total t) {n : Str} (hr : 1 ≤ room) (h : total < getD0 t n * (room + 1)) : n ∈ keysC c ∧ total < (getD0 c n + gone) * (room + 1) := by
  have h2 : getD0 t n * (room + 1) ≤ (getD0 c n + gone) * (room + 1) := Int.mul_le_mul_of_nonneg_right (B.hi n) (by omega)
  refine ⟨Classical.byContradiction fun z => ?_, by omega⟩
  have e0 : getD0 c n = 0 := by
    unfold getD0
    rw [get_none z]
    rfl
  rw [e0, Int.zero_add, Int.mul_comm gone] at h2
  have := B.sm
  have := bn_sum_pos B.pos
  omega
end DK

set_option Elab.async false
set_option linter.all false
set_option maxRecDepth 100000
set_option maxHeartbeats 4000000
namespace DK
open PySem PySem.Spec PyProof.Rows L2
/-! ### the weights of names in a list of comings -/
def wsum (pl : CM) (n : Str) : Int := ((pl.filter fun e => decide (e.1 = n)).map (·.2)).sum
def tally (ks : List Str) (pl : CM) : CM := ks.map fun n => (n, wsum pl n)
theorem wsum_nil (n : Str) : wsum [] n = 0 := rfl
theorem wsum_app (a b : CM) (n : Str) : wsum (a ++ b) n = wsum a n + wsum b n := by
  unfold wsum
  rw [List.filter_append, List.map_append, List.sum_append]
theorem wsum_one (e : Str × Int) (n : Str) : wsum [e] n = if e.1 = n then e.2 else 0 := by
  unfold wsum
  by_cases h : e.1 = n
  · simp [h]
  · simp [h]
theorem wsum_snoc (pl : CM) (e : Str × Int) (n : Str) : wsum (pl ++ [e]) n = if e.1 = n then wsum pl n + e.2 else wsum pl n := by
  rw [wsum_app, wsum_one]
  split <;> omega
theorem tally_keys (ks : List Str) (pl : CM) : keysC (tally ks pl) = ks := by
  unfold keysC tally
  rw [List.map_map]
  exact List.map_id' ks
theorem tally_len (ks : List Str) (pl : CM) : (tally ks pl).length = ks.length := by
  unfold tally
  rw [List.length_map]
theorem tally_has (ks : List Str) (pl : CM) (n : Str) : hasC (tally ks pl) n = true ↔ n ∈ ks := by
  rw [has_iff, tally_keys]
theorem tally_get {ks : List Str} {pl : CM} {n : Str} (h : n ∈ ks) : getC (tally ks pl) n = some (wsum pl n) := by
  induction ks with
  | nil => cases h
  | cons k ks ih =>
    unfold tally
    rw [List.map_cons]
    by_cases e : k = n
    · rw [← e]
      exact getC_cons_eq rfl
    · rw [getC_cons_ne e]
      rcases List.mem_cons.mp h with h | h
      · exact absurd h.symm e
      · exact ih h
theorem tally_put {ks : List Str} {pl : CM} {e : Str × Int} (h : e.1 ∈ ks) : putC (tally ks pl) e.1 (wsum pl e.1 + e.2) = tally ks (pl ++ [e]) := by
  unfold putC
  rw [if_pos ((tally_has _ _ _).mpr h)]
  unfold tally
  rw [List.map_map]
  refine List.map_congr_left fun n _ => ?_
  simp only [Function.comp]
  rw [wsum_snoc]
  by_cases z : n = e.1
  · rw [if_pos z, if_pos z.symm, z]
  · rw [if_neg z, if_neg fun y => z y.symm]
theorem tally_out {ks : List Str} {pl : CM} {e : Str × Int} (h : e.1 ∉ ks) : tally ks (pl ++ [e]) = tally ks pl := by
  unfold tally
  refine List.map_congr_left fun n hn => ?_
  rw [wsum_snoc, if_neg fun y => h (by rw [y]; exact hn)]
theorem tally_new {ks : List Str} {n : Str} (h : n ∉ ks) : putC (tally ks []) n 0 = tally (ks ++ [n]) [] := by
  unfold putC
  rw [if_neg fun z => h ((tally_has _ _ _).mp z)]
  unfold tally
  rw [List.map_append]
  rfl
theorem keys_sort (c : CM) : keysC (sortC c) = sortS (keysC c) := by
  refine sortS_eq (perm_keys (sortC_perm c)) ?_
  unfold keysC
  exact List.pairwise_map.mpr (sortC_asc c)
/-! ### pairs that stand in the heap as tuples -/
def VsAt (H : Hp) (ts : List Addr) (xs : List (V × V)) : Prop := Paired (fun (t : Addr) (e : V × V) => H t = some (.tup [e.1, e.2])) ts xs
def vpr (c : CM) : List (V × V) := c.map fun e => (.str e.1, .int e.2)
theorem vs_prs {H : Hp} {ts : List Addr} {c : CM} (h : PrsAt H ts c) : VsAt H ts (vpr c) := by
  unfold PrsAt at h
  unfold VsAt vpr
  induction h with
  | nil => exact .nil
  | cons r _ ih => exact .cons r ih
theorem vs_ex {H H' : Hp} {ts : List Addr} {xs : List (V × V)} (h : VsAt H ts xs) (e : Ex H H') : VsAt H' ts xs := by
  unfold VsAt at h ⊢
  induction h with
  | nil => exact .nil
  | cons r _ ih => exact .cons (e _ _ r) ih
theorem vs_app {H : Hp} {ts us : List Addr} {xs ys : List (V × V)} (h : VsAt H ts xs) (h2 : VsAt H us ys) : VsAt H (ts ++ us) (xs ++ ys) := by
  unfold VsAt at h h2 ⊢
  induction h with
  | nil => exact h2
  | cons r _ ih => exact .cons r ih
theorem prs_snoc {H : Hp} {ts : List Addr} {c : CM} {t : Addr} {e : Str × Int} (h : PrsAt H ts c) (h2 : H t = some (.tup [.str e.1, .int e.2])) : PrsAt H (ts ++ [t]) (c ++ [e]) := by
  unfold PrsAt at h ⊢
  induction h with
  | nil => exact .cons h2 .nil
  | cons r _ ih => exact .cons r ih
theorem prs_drop {H : Hp} {ts : List Addr} {c : CM} (h : PrsAt H ts c) : ∀ k : Nat, PrsAt H (ts.drop k) (c.drop k) := by
  unfold PrsAt at h ⊢
  induction h with
  | nil =>
    intro k
    rw [List.drop_nil, List.drop_nil]
    exact .nil
  | cons r t ih =>
    intro k
    cases k with
    | zero => exact .cons r t
    | succ k => exact ih k
theorem prs_len {H : Hp} {ts : List Addr} {c : CM} (h : PrsAt H ts c) : ts.length = c.length := by
  unfold PrsAt at h
  exact h.length
/-- what is written is none of the pairs -/
theorem prs_off {H H' : Hp} {ts : List Addr} {c : CM} {l : List Addr} (h : PrsAt H ts c) (o : Off l H H') (hl : ∀ b ∈ l, ∀ xs, H b ≠ some (.tup xs)) : PrsAt H' ts c := by
  unfold PrsAt at h ⊢
  induction h with
  | nil => exact .nil
  | cons r _ ih => exact .cons (o _ _ (fun z => hl _ z _ r) r) ih
theorem cut_fromV (xs : List V) (k : Nat) (h : k ≤ xs.length) : cutV xs (some (k : Int)) none = xs.drop k := by
  unfold cutV
  rw [HT.sIx_none, HT.sIx_nat, Nat.min_eq_left h, List.take_of_length_le]
  rw [List.length_drop]
  exact Nat.le_refl _
end DK

set_option Elab.async false
set_option linter.all false
set_option maxRecDepth 100000
set_option maxHeartbeats 4000000
namespace DK
open PySem PySem.Spec PyProof.Rows L2
/-! ### names of more than their share -/
def trueT (pl : CM) : CM := pl.foldl (fun t e => putC t e.1 (getD0 t e.1 + e.2)) []
def runC (r : Int) (pl : CM) : CM × Int × Int := pl.foldl (fun s e => ((come r s.1 e.1 e.2).1, s.2.1 + (come r s.1 e.1 e.2).2, s.2.2 + e.2)) ([], 0, 0)
theorem true_snoc (pl : CM) (e : Str × Int) : trueT (pl ++ [e]) = putC (trueT pl) e.1 (getD0 (trueT pl) e.1 + e.2) := by
  unfold trueT
  rw [List.foldl_append]
  rfl
theorem run_snoc (r : Int) (pl : CM) (e : Str × Int) : runC r (pl ++ [e]) = ((come r (runC r pl).1 e.1 e.2).1, (runC r pl).2.1 + (come r (runC r pl).1 e.1 e.2).2, (runC r pl).2.2 + e.2) := by
  unfold runC
  rw [List.foldl_append]
  rfl
theorem run_from {r : Int} : ∀ (pl : CM) (s : CM × Int × Int) (t : CM), Bnd r s.1 s.2.1 s.2.2 t → (∀ e ∈ pl, isWt e.2 = true) →
    Bnd r (pl.foldl (fun s e => ((come r s.1 e.1 e.2).1, s.2.1 + (come r s.1 e.1 e.2).2, s.2.2 + e.2)) s).1 (pl.foldl (fun s e => ((come r s.1 e.1 e.2).1, s.2.1 + (come r s.1 e.1 e.2).2, s.2.2 + e.2)) s).2.1
      (pl.foldl (fun s e => ((come r s.1 e.1 e.2).1, s.2.1 + (come r s.1 e.1 e.2).2, s.2.2 + e.2)) s).2.2 (pl.foldl (fun t e => putC t e.1 (getD0 t e.1 + e.2)) t)
  | [], _, _, B, _ => B
  | e :: pl, s, t, B, h => run_from pl _ _ (bnd_come (n := e.1) B (of_decide_eq_true (h e (List.mem_cons_self ..))).1) fun x hx => h x (List.mem_cons_of_mem _ hx)
theorem run_bnd {r : Int} (h1 : 1 ≤ r) {pl : CM} (h : ∀ e ∈ pl, isWt e.2 = true) : Bnd r (runC r pl).1 (runC r pl).2.1 (runC r pl).2.2 (trueT pl) := run_from pl ([], 0, 0) [] (bnd_start r h1) h
theorem wsum_cons (e : Str × Int) (pl : CM) (n : Str) : wsum (e :: pl) n = (if e.1 = n then e.2 else 0) + wsum pl n := by
  have h := wsum_app [e] pl n
  rw [wsum_one] at h
  exact h
theorem true_from (n : Str) : ∀ (pl t : CM), getD0 (pl.foldl (fun t e => putC t e.1 (getD0 t e.1 + e.2)) t) n = getD0 t n + wsum pl n
  | [], t => by rw [wsum_nil, Int.add_zero]; rfl
  | e :: pl, t => by
    rw [List.foldl_cons, true_from n pl, getD0_put, wsum_cons]
    by_cases h : e.1 = n
    · rw [if_pos h.symm, if_pos h, h]
      omega
    · rw [if_neg fun z => h z.symm, if_neg h]
      omega
theorem true_get (pl : CM) (n : Str) : getD0 (trueT pl) n = wsum pl n := by
  unfold trueT
  rw [true_from]
  exact Int.zero_add _
theorem run_tot_from (r : Int) : ∀ (pl : CM) (s : CM × Int × Int), (pl.foldl (fun s e => ((come r s.1 e.1 e.2).1, s.2.1 + (come r s.1 e.1 e.2).2, s.2.2 + e.2)) s).2.2 = s.2.2 + sumC pl
  | [], s => (Int.add_zero _).symm
  | e :: pl, s => by
    rw [List.foldl_cons, run_tot_from r pl, sumC_cons]
    dsimp only
    omega
theorem run_tot (r : Int) (pl : CM) : (runC r pl).2.2 = sumC pl := by
  unfold runC
  rw [run_tot_from]
  exact Int.zero_add _
theorem sum_nonneg {c : CM} (h : posC c) : 0 ≤ sumC c := by
  induction c with
  | nil => exact Int.le_refl _
  | cons e c ih =>
    rw [sumC_cons]
    have := h e (List.mem_cons_self ..)
    have := ih fun x hx => h x (List.mem_cons_of_mem _ hx)
    omega
structure Heavy (r : Int) (pl : CM) (L : List Str) : Prop where
  srt : L.Pairwise fun x y => sle x y = true
  nd : L.Nodup
  mem : ∀ n, n ∈ L ↔ sumC pl < wsum pl n * (r + 1)
theorem heavy_uniq {r : Int} {pl : CM} {L L' : List Str} (h : Heavy r pl L) (h' : Heavy r pl L') : L = L' :=
  List.Perm.eq_of_pairwise (fun a b _ _ h1 h2 => sle_anti h1 h2) h.srt h'.srt ((List.perm_ext_iff_of_nodup h.nd h'.nd).mpr fun n => by rw [h.mem, h'.mem])
theorem heavy_none {r : Int} {pl : CM} {L : List Str} (h : Heavy r pl L) (hn : ∀ n, ¬ sumC pl < wsum pl n * (r + 1)) : L = [] := by
  cases L with
  | nil => rfl
  | cons n L => exact absurd ((h.mem n).mp (List.mem_cons_self ..)) (hn n)
theorem heavy_one {r : Int} {pl : CM} {L : List Str} {x : Str} (h : Heavy r pl L) (hn : ∀ n, sumC pl < wsum pl n * (r + 1) ↔ n = x) : L = [x] :=
  heavy_uniq h ⟨List.pairwise_singleton _ _, List.pairwise_singleton _ _, fun n => by rw [List.mem_singleton, hn]⟩
theorem heavy_desk {r : Int} (h1 : 1 ≤ r) {pl : CM} (h : ∀ e ∈ pl, isWt e.2 = true) : Heavy r pl ((keysC (sortC (runC r pl).1)).filter fun n => decide ((runC r pl).2.2 < wsum pl n * (r + 1))) := by
  have B := run_bnd h1 h
  refine ⟨?_, (sortC_nodup B.nd).filter _, fun n => ?_⟩
  · rw [keys_sort]
    exact (sortS_asc _).filter _
  · rw [List.mem_filter, run_tot]
    refine ⟨fun h => of_decide_eq_true h.2, fun z => ⟨?_, decide_eq_true z⟩⟩
    have := heavy_in B (n := n) h1 (by rw [run_tot, true_get]; exact z)
    exact (perm_keys (sortC_perm _)).mem_iff.mpr this.1
theorem heavy_true {r : Int} (h1 : 1 ≤ r) {pl : CM} (h : ∀ e ∈ pl, isWt e.2 = true) : Heavy r pl ((sortS (keysC (trueT pl))).filter fun n => decide (sumC (trueT pl) < getD0 (trueT pl) n * (r + 1))) := by
  have B := run_bnd h1 h
  have e : sumC (trueT pl) = sumC pl := B.tot.trans (run_tot r pl)
  refine ⟨(sortS_asc _).filter _, ((sortS_perm _).nodup_iff.mpr B.ndt).filter _, fun n => ?_⟩
  rw [List.mem_filter, e, true_get]
  refine ⟨fun h => of_decide_eq_true h.2, fun z => ⟨?_, decide_eq_true z⟩⟩
  refine (sortS_perm _).mem_iff.mpr (pos_has ?_)
  rw [true_get]
  have h0 := sum_nonneg B.post
  rw [e] at h0
  refine Classical.byContradiction fun hh => ?_
  have h2 : wsum pl n ≤ 0 := by omega
  have := Int.mul_nonpos_of_nonpos_of_nonneg h2 (show (0 : Int) ≤ r + 1 by omega)
  omega
/-- names of one weight each -/
theorem wsum_even (W : Int) (n : Str) : ∀ ns : List Str, ns.Nodup → wsum (ns.map fun x => (x, W)) n = if n ∈ ns then W else 0
  | [], _ => rfl
  | x :: ns, nd => by
    obtain ⟨n1, n2⟩ := List.nodup_cons.mp nd
    rw [List.map_cons, wsum_cons, wsum_even W n ns n2]
    by_cases h : x = n
    · subst h
      rw [if_pos rfl, if_neg n1, if_pos (List.mem_cons_self ..)]
      omega
    · rw [if_neg h, Int.zero_add]
      by_cases h2 : n ∈ ns
      · rw [if_pos h2, if_pos (List.mem_cons_of_mem _ h2)]
      · rw [if_neg h2, if_neg fun z => ?_]
        rcases List.mem_cons.mp z with z | z
        · exact h z.symm
        · exact h2 z
theorem sum_even (W : Int) : ∀ ns : List Str, sumC (ns.map fun x => (x, W)) = ns.length * W
  | [] => by rw [List.length_nil]; show (0 : Int) = _; rw [show ((0 : Nat) : Int) = 0 from rfl, Int.zero_mul]
  | x :: ns => by
    rw [List.map_cons, sumC_cons, sum_even W ns, List.length_cons, Int.natCast_succ, Int.add_mul, Int.one_mul, Int.add_comm]
theorem sum_app (a b : CM) : sumC (a ++ b) = sumC a + sumC b := by
  unfold sumC valsC
  rw [List.map_append, List.sum_append]
end DK

set_option Elab.async false
set_option linter.all false
set_option maxRecDepth 100000
set_option maxHeartbeats 4000000
namespace DK
open PySem PySem.Spec PyProof.Rows L2
theorem true_len_from : ∀ (pl t : CM), (pl.foldl (fun t e => putC t e.1 (getD0 t e.1 + e.2)) t).length ≤ t.length + pl.length
  | [], t => Nat.le_refl _
  | e :: pl, t => by
    have h := true_len_from pl (putC t e.1 (getD0 t e.1 + e.2))
    have h2 := put_len t e.1 (getD0 t e.1 + e.2)
    rw [List.foldl_cons, List.length_cons]
    split at h2 <;> omega
theorem true_len (pl : CM) : (trueT pl).length ≤ pl.length := by
  have h := true_len_from pl []
  rw [List.length_nil, Nat.zero_add] at h
  exact h
theorem true_keys_from {n : Str} : ∀ (pl t : CM), n ∈ keysC (pl.foldl (fun t e => putC t e.1 (getD0 t e.1 + e.2)) t) → n ∈ keysC t ∨ ∃ e ∈ pl, e.1 = n
  | [], t, h => .inl h
  | e :: pl, t, h => by
    rw [List.foldl_cons] at h
    rcases true_keys_from pl _ h with h | ⟨x, hx, h⟩
    · rw [keys_put] at h
      split at h
      · exact .inl h
      · rcases List.mem_append.mp h with h | h
        · exact .inl h
        · exact .inr ⟨e, List.mem_cons_self .., (List.mem_singleton.mp h).symm⟩
    · exact .inr ⟨x, List.mem_cons_of_mem _ hx, h⟩
theorem true_keys {pl : CM} {n : Str} (h : n ∈ keysC (trueT pl)) : ∃ e ∈ pl, e.1 = n := by
  rcases true_keys_from pl [] h with h | h
  · cases h
  · exact h
theorem cut_toV (xs : List V) (k : Nat) (h : k ≤ xs.length) : cutV xs none (some (k : Int)) = xs.take k := by
  unfold cutV
  rw [HT.sIx_none, HT.sIx_nat, Nat.min_eq_left h]
  rfl
theorem even_none {W r : Int} {ns : List Str} {L : List Str} (nd : ns.Nodup) (hW : 0 ≤ W) (hr : r + 1 = ns.length) (h : Heavy r (ns.map fun x => (x, W)) L) : L = [] := by
  refine heavy_none h fun n => ?_
  rw [sum_even, wsum_even W n ns nd, hr]
  have h0 : (0 : Int) ≤ ns.length * W := Int.mul_nonneg (by omega) hW
  split
  · rw [Int.mul_comm]
    omega
  · rw [Int.zero_mul]
    omega
theorem even_one {W r : Int} {ns : List Str} {L : List Str} {x : Str} (nd : ns.Nodup) (hx : x ∈ ns) (hW : 0 ≤ W) (hr : r + 1 = ns.length) (h1 : 1 ≤ r) (h : Heavy r ((ns.map fun x => (x, W)) ++ [(x, 1)]) L) : L = [x] := by
  refine heavy_one h fun n => ?_
  rw [sum_app, sum_even, wsum_app, wsum_even W n ns nd, wsum_one, ← hr]
  have h0 : (0 : Int) ≤ (r + 1) * W := Int.mul_nonneg (by omega) hW
  have e1 : sumC [((x, 1) : Str × Int)] = 1 := rfl
  rw [e1]
  by_cases e : x = n
  · subst e
    rw [if_pos hx, if_pos rfl]
    have e : (W + 1) * (r + 1) = (r + 1) * W + (r + 1) := by rw [Int.add_mul, Int.one_mul, Int.mul_comm W]
    refine ⟨fun _ => rfl, fun _ => ?_⟩
    dsimp only
    rw [e]
    omega
  · rw [if_neg (c := (x, (1 : Int)).1 = n) e, Int.add_zero]
    refine ⟨fun h => ?_, fun h => absurd h.symm e⟩
    split at h
    · rw [Int.mul_comm W] at h
      omega
    · rw [Int.zero_mul] at h
      omega
theorem just_wsum (a b : Str) (x y : Int) (n : Str) : wsum [(a, x), (b, y)] n = (if a = n then x else 0) + (if b = n then y else 0) := by
  rw [wsum_cons, wsum_one]
theorem just_sum (a b : Str) (x y : Int) : sumC [(a, x), (b, y)] = x + y := by
  rw [sumC_cons]
  show x + (y + 0) = x + y
  omega
theorem just_heavy {u r : Int} {a b : Str} {L : List Str} (hab : a ≠ b) (hu : 1 ≤ u) (h1 : 1 ≤ r) (h : Heavy r [(a, u), (b, u * r)] L) : L = if r = 1 then [] else [b] := by
  have e : u * (r + 1) = u * r + u := by rw [Int.mul_add, Int.mul_one]
  have e2 : u * r * (r + 1) = u * r * r + u * r := by rw [Int.mul_add, Int.mul_one]
  by_cases hr : r = 1
  · rw [if_pos hr]
    subst hr
    refine heavy_none h fun n => ?_
    rw [just_sum, just_wsum]
    by_cases z1 : a = n
    · rw [if_pos z1, if_neg (fun z => hab (z1.trans z.symm))]
      omega
    · rw [if_neg z1]
      by_cases z2 : b = n
      · rw [if_pos z2]
        omega
      · rw [if_neg z2]
        omega
  · rw [if_neg hr]
    have hur : u ≤ u * r := by
      have := Int.mul_le_mul_of_nonneg_left h1 (show 0 ≤ u by omega)
      rw [Int.mul_one] at this
      exact this
    have hur2 : u * r * 2 ≤ u * r * r := Int.mul_le_mul_of_nonneg_left (show 2 ≤ r by omega) (show 0 ≤ u * r by omega)
    refine heavy_one h fun n => ?_
    rw [just_sum, just_wsum]
    by_cases z1 : a = n
    · rw [if_pos z1, if_neg (fun z => hab (z1.trans z.symm)), Int.add_zero, e]
      refine ⟨fun h => by omega, fun h => absurd (z1.trans h) hab⟩
    · rw [if_neg z1, Int.zero_add]
      by_cases z2 : b = n
      · rw [if_pos z2, e2]
        refine ⟨fun _ => z2.symm, fun _ => by omega⟩
      · rw [if_neg z2, Int.zero_mul]
        refine ⟨fun h => by omega, fun h => absurd h.symm z2⟩
end DK

set_option maxHeartbeats 8000000
namespace DK
open PySem PySem.Spec PyProof.Rows L2
def top (i : Nat) : Stmt := PySem.Challenge.pw_drawerdesk_k09_heavy.main.body.getD i (.Pass ⟨0, 0, 0, 0⟩)
abbrev sNoTextInit : Stmt := inClass (top 8) 0
abbrev pNoTextInit : List Str := ["self", "row"]
abbrev nNoTextInit : List Str := ["self", "row"]
theorem cNoTextInit : FnScope nNoTextInit pNoTextInit (defScope sNoTextInit) := ⟨rfl, rfl, rfl, by decide +kernel, rfl, by decide +kernel, by decide +kernel⟩
abbrev sIsWhole : Stmt := top 14
abbrev pIsWhole : List Str := ["thing"]
abbrev nIsWhole : List Str := ["thing"]
theorem cIsWhole : FnScope nIsWhole pIsWhole (defScope sIsWhole) := ⟨rfl, rfl, rfl, by decide +kernel, rfl, by decide +kernel, by decide +kernel⟩
abbrev sIsName : Stmt := top 15
abbrev pIsName : List Str := ["thing"]
abbrev nIsName : List Str := ["thing"]
theorem cIsName : FnScope nIsName pIsName (defScope sIsName) := ⟨rfl, rfl, rfl, by decide +kernel, rfl, by decide +kernel, by decide +kernel⟩
abbrev sNeedComing : Stmt := top 16
abbrev pNeedComing : List Str := ["name", "weight"]
abbrev nNeedComing : List Str := ["name", "weight"]
theorem cNeedComing : FnScope nNeedComing pNeedComing (defScope sNeedComing) := ⟨rfl, rfl, rfl, by decide +kernel, rfl, by decide +kernel, by decide +kernel⟩
abbrev sNeedDrawers : Stmt := top 17
abbrev pNeedDrawers : List Str := ["drawers"]
abbrev nNeedDrawers : List Str := ["drawers"]
theorem cNeedDrawers : FnScope nNeedDrawers pNeedDrawers (defScope sNeedDrawers) := ⟨rfl, rfl, rfl, by decide +kernel, rfl, by decide +kernel, by decide +kernel⟩
abbrev sLowered : Stmt := top 18
abbrev pLowered : List Str := ["counts", "less"]
abbrev nLowered : List Str := ["counts", "less", "found", "name", "count"]
theorem cLowered : FnScope nLowered pLowered (defScope sLowered) := ⟨rfl, rfl, rfl, by decide +kernel, rfl, by decide +kernel, by decide +kernel⟩
abbrev sDInit : Stmt := inClass (top 19) 0
abbrev pDInit : List Str := ["self", "drawers"]
abbrev nDInit : List Str := ["self", "drawers"]
theorem cDInit : FnScope nDInit pDInit (defScope sDInit) := ⟨rfl, rfl, rfl, by decide +kernel, rfl, by decide +kernel, by decide +kernel⟩
abbrev sDCome : Stmt := inClass (top 19) 1
abbrev pDCome : List Str := ["self", "name", "weight"]
abbrev nDCome : List Str := ["self", "name", "weight", "less"]
theorem cDCome : FnScope nDCome pDCome (defScope sDCome) := ⟨rfl, rfl, rfl, by decide +kernel, rfl, by decide +kernel, by decide +kernel⟩
abbrev sDShown : Stmt := inClass (top 19) 2
abbrev pDShown : List Str := ["self"]
abbrev nDShown : List Str := ["self"]
theorem cDShown : FnScope nDShown pDShown (defScope sDShown) := ⟨rfl, rfl, rfl, by decide +kernel, rfl, by decide +kernel, by decide +kernel⟩
abbrev sDLost : Stmt := inClass (top 19) 3
abbrev pDLost : List Str := ["self"]
abbrev nDLost : List Str := ["self"]
theorem cDLost : FnScope nDLost pDLost (defScope sDLost) := ⟨rfl, rfl, rfl, by decide +kernel, rfl, by decide +kernel, by decide +kernel⟩
abbrev sDWeight : Stmt := inClass (top 19) 4
abbrev pDWeight : List Str := ["self"]
abbrev nDWeight : List Str := ["self"]
theorem cDWeight : FnScope nDWeight pDWeight (defScope sDWeight) := ⟨rfl, rfl, rfl, by decide +kernel, rfl, by decide +kernel, by decide +kernel⟩
abbrev sDDrawers : Stmt := inClass (top 19) 5
abbrev pDDrawers : List Str := ["self"]
abbrev nDDrawers : List Str := ["self"]
theorem cDDrawers : FnScope nDDrawers pDDrawers (defScope sDDrawers) := ⟨rfl, rfl, rfl, by decide +kernel, rfl, by decide +kernel, by decide +kernel⟩
abbrev sCounted : Stmt := top 21
abbrev pCounted : List Str := ["desk", "comings"]
abbrev nCounted : List Str := ["desk", "comings", "found", "name", "weight"]
theorem cCounted : FnScope nCounted pCounted (defScope sCounted) := ⟨rfl, rfl, rfl, by decide +kernel, rfl, by decide +kernel, by decide +kernel⟩
abbrev sHeavy : Stmt := top 22
abbrev pHeavy : List Str := ["comings", "drawers"]
abbrev nHeavy : List Str := ["comings", "drawers", "desk", "name", "weight", "weights"]
theorem cHeavy : FnScope nHeavy pHeavy (defScope sHeavy) := ⟨rfl, rfl, rfl, by decide +kernel, rfl, by decide +kernel, by decide +kernel⟩
abbrev sLMixed : Stmt := top 24
abbrev pLMixed : List Str := ["_law_cell", "_law_k"]
abbrev nLMixed : List Str := ["_law_cell", "_law_k", "_law_mark"]
theorem cLMixed : FnScope nLMixed pLMixed (defScope sLMixed) := ⟨rfl, rfl, rfl, by decide +kernel, rfl, by decide +kernel, by decide +kernel⟩
abbrev sLNames : Stmt := top 25
abbrev pLNames : List Str := ["_law_script"]
abbrev nLNames : List Str := ["_law_script", "_law_letters", "_law_cell", "_law_base", "_law_at", "_law_names_here", "_law_k", "_law_letter", "_law_word_here"]
theorem cLNames : FnScope nLNames pLNames (defScope sLNames) := ⟨rfl, rfl, rfl, by decide +kernel, rfl, by decide +kernel, by decide +kernel⟩
abbrev sLComing : Stmt := top 26
abbrev pLComing : List Str := ["_law_names_here", "_law_cell", "_law_k"]
abbrev nLComing : List Str := ["_law_names_here", "_law_cell", "_law_k", "_law_mark", "_law_name", "_law_sort", "_law_weight"]
theorem cLComing : FnScope nLComing pLComing (defScope sLComing) := ⟨rfl, rfl, rfl, by decide +kernel, rfl, by decide +kernel, by decide +kernel⟩
abbrev sLDrawers : Stmt := top 27
abbrev pLDrawers : List Str := ["_law_script"]
abbrev nLDrawers : List Str := ["_law_script", "_law_mark"]
theorem cLDrawers : FnScope nLDrawers pLDrawers (defScope sLDrawers) := ⟨rfl, rfl, rfl, by decide +kernel, rfl, by decide +kernel, by decide +kernel⟩
abbrev sLWord : Stmt := top 28
abbrev pLWord : List Str := ["_law_error"]
abbrev nLWord : List Str := ["_law_error", "_law_words", "_law_one", "_law_other", "_law_word_here", "_law_flag"]
theorem cLWord : FnScope nLWord pLWord (defScope sLWord) := ⟨rfl, rfl, rfl, by decide +kernel, rfl, by decide +kernel, by decide +kernel⟩
abbrev sLTold : Stmt := top 29
abbrev pLTold : List Str := ["_law_comings", "_law_drawers_here"]
abbrev nLTold : List Str := ["_law_comings", "_law_drawers_here", "_law_found", "_law_told_here", "_law_error"]
theorem cLTold : FnScope nLTold pLTold (defScope sLTold) := ⟨rfl, rfl, rfl, by decide +kernel, rfl, by decide +kernel, by decide +kernel⟩
abbrev sLaw : Stmt := top 30
abbrev pLaw : List Str := ["_law_script"]
abbrev nLaw : List Str := ["_law_script", "_law_names_here", "_law_mark", "_law_k", "_law_cell", "_law_comings", "_law_true", "_law_name", "_law_weight", "_law_handed", "_law_drawers_here", "_law_due", "_law_some", "_law_even", "_law_just", "_law_wrong"]
theorem cLaw : FnScope nLaw pLaw (defScope sLaw) := ⟨rfl, rfl, rfl, by decide +kernel, rfl, by decide +kernel, by decide +kernel⟩
/-! ### the checks -/
section
variable {P : Program} {w : World} {K : PySem.W.Frag} {mg : Str → Option Value} {base : Heap}
def spWhole (K : PySem.W.Frag) : Sp := fun vs H Q _ => ∃ x, vs = [x] ∧ Thing K H x ∧ Q (.bl (isWholeV x)) H
theorem ok_whole {f : Addr} {fd : FuncData} (F : Fun K "is_whole" "is_whole" sIsWhole f fd) (mI : mg "isinstance" = none) (mi : mg "int" = none) (mb : mg "bool" = none) : FnOk P w K mg base CX0 1 f fd pIsWhole (spWhole K) := by
  refine F.ok cIsWhole (fun vs H Q E h => ?_) (fun cdv A outer s H vs Q E hr h => ?_)
  · obtain ⟨x, rfl, _⟩ := h
    rfl
  · obtain ⟨x, rfl, ⟨t, ty, k1, k2, k3⟩, q⟩ := h
    refine ⟨_, pss_one (ps_ret (pe_and (pe_callB call_isi (by rfl) mI (by decide +kernel) (pa_cons (pv 0) (pa_cons (pe_bty (n := "int") mi (by decide +kernel) (by rfl)) pa_nil)))
      (pe_one (pe_not (pe_callB call_isi (by rfl) mI (by decide +kernel) (pa_cons (pv 0) (pa_cons (pe_bty (n := "bool") mb (by decide +kernel) (by rfl)) pa_nil))))))), ?_⟩
    refine ⟨_, rfl, x, .ty "int", t, .type "int", _, rfl, .ty "int", ty, k2, _, rfl, ?_⟩
    cases x <;> first | exact q | (refine iteT ⟨_, rfl, _, .ty "bool", t, .type "bool", _, rfl, .ty "bool", ty, k3, _, rfl, q⟩)
def spName (K : PySem.W.Frag) : Sp := fun vs H Q _ => ∃ x, vs = [x] ∧ Thing K H x ∧ (∀ z, x = .str z → z.length ≤ sizeLine) ∧ Q (.bl (isNameV x)) H
theorem ok_name {f : Addr} {fd : FuncData} (F : Fun K "is_name" "is_name" sIsName f fd) (mI : mg "isinstance" = none) (ms : mg "str" = none) (ml : mg "len" = none) {t8 tL : Tok} (m8 : mg "LONGEST" = some (.int 8 t8)) (mL : mg "LETTERS" = some (.str letters tL)) : FnOk P w K mg base CX0 1 f fd pIsName (spName K) := by
  refine F.ok cIsName (fun vs H Q E h => ?_) (fun cdv A outer s H vs Q E hr h => ?_)
  · obtain ⟨x, rfl, _⟩ := h
    rfl
  · obtain ⟨x, rfl, ⟨t, ty, k1, k2, k3⟩, hz, q⟩ := h
    refine ⟨_, pss_one (ps_ret (pe_and (pe_callB call_isi (by rfl) mI (by decide +kernel) (pa_cons (pv 0) (pa_cons (pe_bty (n := "str") ms (by decide +kernel) (by rfl)) pa_nil)))
      (pe_and (pe_chain op_le op_le pe_int (pe_callB call_len_str (by rfl) ml PySem.boot_len (pa_cons (pv 0) pa_nil)) (pe_gint m8 (by rfl)))
      (pe_one (pe_cmpR op_eq (pe_bm PySem.F.plainAttrs_str PySem.F.slot_str_strip PySem.F.type_str_strip mt_stripChars (pv 0) (pa_cons (pe_gstr mL (by rfl)) pa_nil)) pe_str (nomark _)))))), ?_⟩
    refine ⟨_, rfl, x, .ty "str", t, .type "str", _, rfl, .ty "str", ty, k1, _, rfl, ?_⟩
    cases x <;> first | exact q | skip
    rename_i z
    have hz := hz z rfl
    refine iteT ?_
    refine ⟨_, rfl, z, rfl, hz, _, _, rfl, rfl, _, rfl, ?_⟩
    refine ite2 (fun h1 => ?_) (fun h1 => ?_)
    · refine ⟨_, _, rfl, rfl, _, rfl, ?_⟩
      refine ite2 (fun h2 => ?_) (fun h2 => ?_)
      · refine ⟨_, rfl, rfl, _, _, rfl, rfl, hz, rfl, ?_⟩
        have e1 := of_decide_eq_true h1
        have e2 := of_decide_eq_true h2
        have e3 : isNameV (.str z) = decide (V.str (PySem.Txt.stripChars z letters) = V.str "") := by
          rw [strip_letters]
          show (decide (1 ≤ z.length ∧ z.length ≤ 8) && _) = _
          rw [decide_eq_true (show 1 ≤ z.length ∧ z.length ≤ 8 by omega), Bool.true_and]
        rw [← e3]
        exact q
      · have e2 := of_decide_eq_false (Bool.eq_false_iff.mpr h2)
        have e3 : isNameV (.str z) = false := by
          show (decide (1 ≤ z.length ∧ z.length ≤ 8) && _) = _
          rw [decide_eq_false (show ¬ (1 ≤ z.length ∧ z.length ≤ 8) by omega), Bool.false_and]
        rw [e3] at q
        exact q
    · have e1 := of_decide_eq_false (Bool.eq_false_iff.mpr h1)
      refine ⟨_, rfl, iteF ?_⟩
      have e3 : isNameV (.str z) = false := by
        show (decide (1 ≤ z.length ∧ z.length ≤ 8) && _) = _
        rw [decide_eq_false (show ¬ (1 ≤ z.length ∧ z.length ≤ 8) by omega), Bool.false_and]
      rw [e3] at q
      exact q
/-- a coming's name and weight -/
def spNeedComing (K : PySem.W.Frag) (CN CW : Addr) : Sp := fun vs H Q E => ∃ x y, vs = [x, y] ∧ Thing K H x ∧ Thing K H y ∧ (∀ z, x = .str z → z.length ≤ sizeLine) ∧
  (isNameV x = true → isWtV y = true → Q .non H) ∧ (isNameV x = false → E (.ref CN) none H) ∧ (isNameV x = true → isWtV y = false → E (.ref CW) none H)
theorem ok_needComing {CN CW f : Addr} {fd : FuncData} (F : Fun K "need_coming" "need_coming" sNeedComing f fd) (GN : Gf P w K mg base CX0 1 "is_name" pIsName (spName K)) (GW : Gf P w K mg base CX0 1 "is_whole" pIsWhole (spWhole K))
    {tG : Tok} (mG : mg "GREATEST" = some (.int great tG)) (eN : ExT K mg "NoName" CN) (eW : ExT K mg "NoWeight" CW) : FnOk P w K mg base (L2.CX P w) 2 f fd pNeedComing (spNeedComing K CN CW) := by
  obtain ⟨fN, fdN, gN, bN, mN, kN⟩ := GN.ex
  obtain ⟨fW, fdW, gW, bW, mW, kW⟩ := GW.ex
  refine F.okX cNeedComing (fun vs H Q E h => ?_) (fun cdv A outer s H vs Q E hr h => ?_)
  · obtain ⟨x, y, rfl, _⟩ := h
    rfl
  · obtain ⟨x, y, rfl, tx, ty, hz, q1, q2, q3⟩ := h
    refine ⟨_, pss_cons (ps_if (pt_not (pt_val (pe_call gN hr rfl mN kN bN .nil pass0 (pa_cons (pv 0) pa_nil)))) (pss_one (ps_raise rfl (takes_of rfl rfl rfl rfl) (pmk_own PySem.F.excBase_ValueError eN.x eN.g eN.k (raises_own eN.b eN.t) (by rfl)))) pss_nil)
      (pss_one (ps_if (PW.pt (pw_or (pt_not (pt_val (pe_call gW hr rfl mW kW bW .nil pass0 (pa_cons (pv 1) pa_nil))))
        (pw_or1 (pt_not (pt_chain op_le op_le pe_int (pv 1) (pe_gint mG (by rfl)))))))
        (pss_one (ps_raise rfl (takes_of rfl rfl rfl rfl) (pmk_own PySem.F.excBase_ValueError eW.x eW.g eW.k (raises_own eW.b eW.t) (by rfl)))) pss_nil)), ?_⟩
    refine ⟨_, rfl, x, rfl, tx, hz, _, rfl, ?_⟩
    cases hx : isNameV x with
    | false => exact iteT (q2 hx)
    | true =>
      refine iteF ?_
      refine ⟨_, rfl, y, rfl, ty, _, rfl, ?_⟩
      cases y <;> first | exact q3 hx rfl | skip
      rename_i i
      refine iteF ?_
      refine ⟨_, rfl, _, _, rfl, rfl, _, rfl, ?_⟩
      refine ite2 (fun h1 => ?_) (fun h1 => ?_)
      · refine ⟨_, _, rfl, rfl, _, rfl, ?_⟩
        have e1 := of_decide_eq_true h1
        cases h2 : decide (i ≤ great) with
        | true => exact iteF (q1 hx (decide_eq_true ⟨e1, of_decide_eq_true h2⟩))
        | false => exact iteT (q3 hx (decide_eq_false fun z => of_decide_eq_false h2 z.2))
      · have e1 := of_decide_eq_false (Bool.eq_false_iff.mpr h1)
        exact ⟨_, rfl, iteT (q3 hx (decide_eq_false fun z => e1 z.1))⟩
def spNeedDrawers (K : PySem.W.Frag) (CD : Addr) : Sp := fun vs H Q E => ∃ x, vs = [x] ∧ Thing K H x ∧ (isRoomV x = true → Q .non H) ∧ (isRoomV x = false → E (.ref CD) none H)
theorem ok_needDrawers {CD f : Addr} {fd : FuncData} (F : Fun K "need_drawers" "need_drawers" sNeedDrawers f fd) (GW : Gf P w K mg base CX0 1 "is_whole" pIsWhole (spWhole K))
    {tM : Tok} (mM : mg "MOST_DRAWERS" = some (.int 50 tM)) (eD : ExT K mg "NoDesk" CD) : FnOk P w K mg base (L2.CX P w) 2 f fd pNeedDrawers (spNeedDrawers K CD) := by
  obtain ⟨fW, fdW, gW, bW, mW, kW⟩ := GW.ex
  refine F.okX cNeedDrawers (fun vs H Q E h => ?_) (fun cdv A outer s H vs Q E hr h => ?_)
  · obtain ⟨x, rfl, _⟩ := h
    rfl
  · obtain ⟨x, rfl, tx, q1, q2⟩ := h
    refine ⟨_, pss_one (ps_if (PW.pt (pw_or (pt_not (pt_val (pe_call gW hr rfl mW kW bW .nil pass0 (pa_cons (pv 0) pa_nil))))
        (pw_or1 (pt_not (pt_chain op_le op_le pe_int (pv 0) (pe_gint mM (by rfl)))))))
        (pss_one (ps_raise rfl (takes_of rfl rfl rfl rfl) (pmk_own PySem.F.excBase_ValueError eD.x eD.g eD.k (raises_own eD.b eD.t) (by rfl)))) pss_nil), ?_⟩
    refine ⟨_, rfl, x, rfl, tx, _, rfl, ?_⟩
    cases x <;> first | exact q2 rfl | skip
    rename_i i
    refine iteF ?_
    refine ⟨_, rfl, _, _, rfl, rfl, _, rfl, ?_⟩
    refine ite2 (fun h1 => ?_) (fun h1 => ?_)
    · refine ⟨_, _, rfl, rfl, _, rfl, ?_⟩
      have e1 := of_decide_eq_true h1
      cases h2 : decide (i ≤ 50) with
      | true => exact iteF (q1 (decide_eq_true ⟨e1, of_decide_eq_true h2⟩))
      | false => exact iteT (q2 (decide_eq_false fun z => of_decide_eq_false h2 z.2))
    · have e1 := of_decide_eq_false (Bool.eq_false_iff.mpr h1)
      exact ⟨_, rfl, iteT (q2 (decide_eq_false fun z => e1 z.1))⟩
end
/-! ### lowered, the Desk -/
section
variable {P : Program} {w : World} {K : PySem.W.Frag} {mg : Str → Option Value} {base : Heap}
/-- a new table: those of the old one that have more, so much less -/
def spLowered : Sp := fun vs H Q _ => ∃ (d : Addr) (c : CM) (m : Int), vs = [.ref d, .int m] ∧ H d = some (.dK (kvc c)) ∧ (keysC c).Nodup ∧ c.length ≤ 1000 ∧
  ∀ (H' : Hp) (d' : Addr), H d' = none → Ex H H' → H' d' = some (.dK (kvc (lowered c m))) → Q (.ref d') H'
theorem ok_lowered {f : Addr} {fd : FuncData} (F : Fun K "lowered" "lowered" sLowered f fd) : FnOk P w K mg base CX0 1 f fd pLowered spLowered := by
  refine F.ok cLowered (fun vs H Q E h => ?_) (fun cdv A outer s H vs Q E hr h => ?_)
  · obtain ⟨d, c, m, rfl, _⟩ := h
    rfl
  · obtain ⟨d, c, m, rfl, hd, nd, hl, q⟩ := h
    have hu := hu_of hr
    refine ⟨_, pss_cons (ps_set (i := 2) cLowered.nd rfl (Or.inl rfl) pe_dnewK)
      (pss_cons (ps_lock (ps_for PassesOwn.never rfl (pi_items (pv 0)) (pg_tup rfl (pgs_cons (pg_name (i := 3) cLowered.nd rfl (Or.inl rfl)) (pgs_cons (pg_name (i := 4) cLowered.nd rfl (Or.inl rfl)) pgs_nil)))
        (pss_one (ps_if (pt_cmpR op_gt (pv 4) (pv 1) (nomark _)) (pss_one (ps_dput hu (pv 2) (pv 3) (pe_op op_sub (pv 4) (pv 1)) rfl)) pss_nil))))
      (pss_one (ps_ret (pv 2)))), ?_⟩
    intro f hf
    have ndf : d ≠ f := ne_of_none hd hf
    refine ⟨d, .dK (kvc c), by rw [upd_ne ndf]; exact hd, trivial, fun od => ⟨_, rfl, d, od, kvc c, rfl, upd_same, ?_⟩⟩
    refine for_it (n := c.length) (fun i σ H2 => ∃ v3 v4, σ = [some (.ref d), some (.int m), some (.ref f), v3, v4] ∧ H2 d = some (.frz od (.dK (kvc c))) ∧ H2 f = some (.dK (kvc (lowered (c.take i) m))) ∧ ∀ b o, b ≠ d → H b = some o → H2 b = some o)
      ⟨none, none, rfl, upd_same, by rw [upd_ne ndf.symm, upd_same]; rfl, fun b o hb e => by rw [upd_ne hb, upd_ne (ne_of_none e hf)]; exact e⟩ ?_ ?_ ?_ ?_
    · rintro i σ H2 hi ⟨v3, v4, rfl, h1, h2, h3⟩
      exact ⟨h1, by rw [len_kvc]; exact hi⟩
    · rintro σ H2 ⟨v3, v4, rfl, h1, h2, h3⟩
      exact ⟨h1, by rw [len_kvc]; exact Nat.le_refl _⟩
    · rintro i σ H2 hi ⟨v3, v4, rfl, h1, h2, h3⟩ x H3 ⟨T, k, v, hk, rfl, hT, rfl⟩
      have ei : c[i]? = some c[i] := List.getElem?_eq_getElem hi
      have e0 : (kvc c)[i]? = some (Sum.inr c[i].1, V.int c[i].2) := by
        unfold kvc
        rw [List.getElem?_map, ei]
        rfl
      rw [e0] at hk
      cases hk
      have nT : T ≠ f := fun z => by rw [z, h2] at hT; cases hT
      have dT : d ≠ T := fun z => by rw [← z, h1] at hT; cases hT
      refine ⟨T, _, rfl, SqT.of upd_same, rfl, _, _, rfl, _, _, rfl, rfl, ?_⟩
      refine ⟨_, rfl, _, rfl, _, _, rfl, rfl, _, rfl, ?_⟩
      have tk : c.take (i + 1) = c.take i ++ [c[i]] := List.take_succ_eq_append_getElem hi
      refine ite2 (fun h => ?_) (fun h => ?_)
      · have hlt : m < c[i].2 := of_decide_eq_true h
        refine ⟨_, rfl, _, rfl, _, _, rfl, rfl, _, rfl, _, rfl, f, _, rfl, DPut.of (by rw [upd_ne nT.symm]; exact h2) _ _ (small ?_), ?_⟩
        · have : (lowered (c.take i) m).length ≤ (c.take i).length := by unfold lowered; rw [List.length_map]; exact List.length_filter_le _ _
          have : (c.take i).length ≤ c.length := by rw [List.length_take]; omega
          omega
        · refine ⟨_, _, rfl, by rw [upd_ne ndf, upd_ne dT]; exact h1, ?_, fun b o hb e => ?_⟩
          · rw [upd_same, tk]
            have nk : hasC (lowered (c.take i) m) c[i].1 = false := by
              refine Bool.eq_false_iff.mpr fun hh => ?_
              unfold hasC at hh
              rw [List.any_eq_true] at hh
              obtain ⟨z, hz, ez⟩ := hh
              unfold lowered at hz
              obtain ⟨y, hy, rfl⟩ := List.mem_map.mp hz
              have hy2 := (List.mem_filter.mp hy).1
              obtain ⟨j, hj⟩ := List.mem_iff_getElem?.mp hy2
              have hji : j < i := by
                have := (List.getElem?_eq_some_iff.mp hj).1
                rw [List.length_take] at this
                omega
              rw [List.getElem?_take, if_pos hji] at hj
              have a1 : (keysC c)[j]? = some c[i].1 := by
                unfold keysC
                rw [List.getElem?_map, hj]
                exact congrArg some (of_decide_eq_true ez)
              have a2 : (keysC c)[i]? = some c[i].1 := by
                unfold keysC
                rw [List.getElem?_map, ei]
                rfl
              have := nd_ix nd a1 a2
              omega
            have e2 : putC (lowered (c.take i) m) c[i].1 (c[i].2 - m) = lowered (c.take i ++ [c[i]]) m := by
              unfold putC
              rw [if_neg (by rw [nk]; exact Bool.false_ne_true)]
              unfold lowered
              rw [List.filter_append, List.map_append]
              simp [hlt]
            rw [e2]
          · have hbT : H2 b = some o := h3 b o hb e
            rw [upd_ne (fun z => by rw [z] at e; rw [e] at hf; cases hf), upd_ne (fun z => by rw [z, hT] at hbT; cases hbT)]
            exact hbT
      · have hlt : ¬ m < c[i].2 := fun z => h (decide_eq_true z)
        refine ⟨_, _, rfl, by rw [upd_ne dT]; exact h1, ?_, fun b o hb e => ?_⟩
        · rw [upd_ne nT.symm, h2, tk]
          have e2 : lowered (c.take i ++ [c[i]]) m = lowered (c.take i) m := by
            unfold lowered
            rw [List.filter_append, List.map_append]
            simp [hlt]
          rw [e2]
        · have hbT : H2 b = some o := h3 b o hb e
          rw [upd_ne (fun z => by rw [z, hT] at hbT; cases hbT)]
          exact hbT
    · rintro σ H2 ⟨v3, v4, rfl, h1, h2, h3⟩
      refine ⟨h1, _, rfl, q _ f hf (fun b o e => ?_) ?_⟩
      · by_cases hb : b = d
        · rw [hb, upd_same]
          rw [hb, hd] at e
          exact e
        · rw [upd_ne hb]
          exact h3 b o hb e
      · rw [upd_ne ndf.symm, h2, List.take_of_length_le (Nat.le_refl _)]
end
/-- what is asked of the class Desk and of the names that its methods use -/
structure DkT (K : PySem.W.Frag) (mg : Str → Option Value) (C CN CW CD : Addr) : Prop where
  cl : Cls K C
  nR : NoAttr K C "room"
  nC : NoAttr K C "counts"
  nG : NoAttr K C "gone"
  nT : NoAttr K C "total"
  mgC : mg "Desk" = some (.ref C)
  len : mg "len" = none
  mn : mg "min" = none
  lst : mg "list" = none
  dct : mg "dict" = none
  srt : mg "sorted" = none
  eN : ExT K mg "NoName" CN
  eW : ExT K mg "NoWeight" CW
  eD : ExT K mg "NoDesk" CD
section
variable {P : Program} {w : World} {K : PySem.W.Frag} {mg : Str → Option Value} {base : Heap} {C CN CW CD : Addr}
/-- a fresh Desk -/
def spInit (K : PySem.W.Frag) (C CD : Addr) : Sp := fun vs H Q E => ∃ p x dx, vs = [.ref p, x] ∧ H p = some (.ins C dx []) ∧ Thing K H x ∧
  (∀ r, x = .int r → isRoomV x = true → ∀ (d : Addr) (H' : Hp), H d = none → Off [p] H H' → DeskAt C H' p d r [] 0 0 → Q .non H') ∧ (isRoomV x = false → E (.ref CD) none H)
theorem ok_init {f : Addr} {fd : FuncData} (F : Fun K "__init__" "Desk.__init__" sDInit f fd) (T : DkT K mg C CN CW CD) (GD : Gf P w K mg base (L2.CX P w) 2 "need_drawers" pNeedDrawers (spNeedDrawers K CD)) :
    FnOk P w K mg base (L2.CX P w) 3 f fd pDInit (spInit K C CD) := by
  obtain ⟨fD, fdD, gD, bD, mD, kD⟩ := GD.ex
  refine F.okX cDInit (fun vs H Q E h => ?_) (fun cdv A outer s H vs Q E hr h => ?_)
  · obtain ⟨p, x, dx, rfl, _⟩ := h
    rfl
  · obtain ⟨p, x, dx, rfl, hp, tx, q1, q2⟩ := h
    refine ⟨_, pss_cons (ps_expr (pe_call gD hr rfl mD kD bD .nil (passes_call (takes_of rfl rfl rfl rfl) (fun _ _ _ _ z => z)) (pa_cons (pv 1) pa_nil)))
      (pss_cons (ps_fld (pv 0) (pv 1) rfl) (pss_cons (ps_fld (pv 0) pe_dnewK rfl) (pss_cons (ps_fld (pv 0) pe_int rfl) (pss_one (ps_fld (pv 0) pe_int rfl))))), ?_⟩
    refine ⟨_, rfl, x, rfl, tx, fun hx => ?_, q2⟩
    cases x <;> first | (exact absurd hx Bool.false_ne_true) | skip
    rename_i r
    have hx' := of_decide_eq_true hx
    refine ⟨_, rfl, _, rfl, p, C, dx, _, rfl, hp, T.cl, T.nR, (by show 0 < 1000; decide), ?_⟩
    intro d hd
    have npd : p ≠ d := fun z => by rw [← z, upd_same] at hd; cases hd
    refine ⟨_, rfl, p, C, dx, _, rfl, (by rw [upd_ne npd]; exact upd_same), T.cl, T.nC, (by show 1 < 1000; decide), ?_⟩
    refine ⟨_, rfl, p, C, dx, _, rfl, upd_same, T.cl, T.nG, (by show (putF "counts" (V.ref d) [(("room" : Str), V.int r)]).length < 1000; simp only [putF, if_neg k_ne.1]; show 2 < 1000; decide), ?_⟩
    refine ⟨_, rfl, p, C, dx, _, rfl, upd_same, T.cl, T.nT, (by show (putF "gone" (V.int 0) (putF "counts" (V.ref d) [(("room" : Str), V.int r)])).length < 1000; simp only [putF, if_neg k_ne.1, if_neg k_ne.2.1, if_neg k_ne.2.2.2.1]; show 3 < 1000; decide), ?_⟩
    have hd0 : H d = none := by
      rw [upd_ne npd.symm] at hd
      exact hd
    refine q1 r rfl hx d _ hd0 (fun b o hb e => ?_) ⟨⟨dx, ?_⟩, ?_, List.nodup_nil, (by show ((0 : Nat) : Int) ≤ r; omega), hx'.1, hx'.2⟩
    · have nb : b ≠ p := fun z => hb (by rw [z]; exact List.mem_cons_self ..)
      rw [upd_ne nb, upd_ne nb, upd_ne nb, upd_ne (ne_of_none e hd0), upd_ne nb]
      exact e
    · rw [upd_same, ← dfl_make]
    · rw [upd_ne npd.symm, upd_ne npd.symm, upd_ne npd.symm, upd_same]
      rfl
/-- a coming -/
def spCome (K : PySem.W.Frag) (C CN CW : Addr) : Sp := fun vs H Q E => ∃ p d room c gone total x y, vs = [.ref p, x, y] ∧ DeskAt C H p d room c gone total ∧ Thing K H x ∧ Thing K H y ∧ (∀ z, x = .str z → z.length ≤ sizeLine) ∧
  (∀ n wt, x = .str n → y = .int wt → isName n = true → isWt wt = true → ∀ (H' : Hp) (d' : Addr), (d' = d ∨ H d' = none) → Off [p, d] H H' → DeskAt C H' p d' room (come room c n wt).1 (gone + (come room c n wt).2) (total + wt) → Q .non H') ∧
  (isNameV x = false → E (.ref CN) none H) ∧ (isNameV x = true → isWtV y = false → E (.ref CW) none H)
theorem ok_come {f : Addr} {fd : FuncData} {dvs : List V} (F : FunD K "come" "Desk.come" (defArgs sDCome) (defBody sDCome) (defScope sDCome) dvs [] f fd) (T : DkT K mg C CN CW CD)
    (GN : Gf P w K mg base (L2.CX P w) 2 "need_coming" pNeedComing (spNeedComing K CN CW)) (GL : Gf P w K mg base CX0 1 "lowered" pLowered spLowered) :
    FnOk P w K mg base (L2.CX P w) 3 f fd pDCome (spCome K C CN CW) := by
  obtain ⟨fN, fdN, gN, bN, mN, kN⟩ := GN.ex
  obtain ⟨fL, fdL, gL, bL, mL, kL⟩ := GL.ex
  refine F.ok cDCome (fun vs H Q E h => ?_) (fun cdv A outer s H vs Q E hr h => ?_)
  · obtain ⟨p, d, room, c, gone, total, x, y, rfl, _⟩ := h
    rfl
  · obtain ⟨p, d, room, c, gone, total, x, y, rfl, D, tx, ty, hz, q1, q2, q3⟩ := h
    have hu := hu_of hr
    refine ⟨_, pss_cons (ps_expr (pe_call gN hr rfl mN kN bN .nil (passes_call (takes_of rfl rfl rfl rfl) (fun _ _ _ _ z => z)) (pa_cons (pv 1) (pa_cons (pv 2) pa_nil))))
      (pss_cons (ps_fldaug (pv 0) (pv 2) in_add)
      (pss_cons (ps_if (PW.pt (pw_and (pt_cmp (pc_dnotin hu (pv 1) (pe_fld (pv 0) rfl))) (pw_and1 (pt_cmpR op_eq (pe_callB call_lenD (by rfl) T.len PySem.boot_len (pa_cons (pe_fld (pv 0) rfl) pa_nil)) (pe_fld (pv 0) rfl) (nomark _)))))
        (pss_cons (ps_set (i := 3) cDCome.nd rfl (Or.inl rfl) (pe_callB (cr_min rfl) (by rfl) T.mn (by decide +kernel) (pa_cons (pe_op op_cat (pe_lst (pa_cons (pv 2) pa_nil))
            (pe_callTy (call_listV rfl) (by rfl) T.lst (by decide +kernel) (pa_cons (pe_bm0 PySem.F.plainAttrs_dict PySem.F.slot_dict_values PySem.F.type_dict_values mt_vals (pe_fld (pv 0) rfl)) pa_nil))) pa_nil)))
          (pss_cons (ps_fld (pv 0) (pe_call gL (hr.mono (by decide)) rfl mL kL bL .nil pass0 (pa_cons (pe_fld (pv 0) rfl) (pa_cons (pv 3) pa_nil))) rfl)
          (pss_cons (ps_fldaug (pv 0) (pv 3) in_add)
          (pss_one (ps_aug (i := 2) cDCome.nd rfl (Or.inl rfl) (pv 3) ip_sub)))))
        pss_nil)
      (pss_one (ps_if (pt_cmpR op_gt (pv 2) pe_int (nomark _)) (pss_one (ps_dput hu (pe_fld (pv 0) rfl) (pv 1) (pe_op op_add (pe_dget2 hu (pe_fld (pv 0) rfl) (pv 1) pe_int ⟨rfl, rfl, rfl, rfl⟩) (pv 2)) rfl)) pss_nil)))), ?_⟩
    refine ⟨_, rfl, _, rfl, x, y, rfl, tx, ty, hz, fun hx hy => ?_, q2, q3⟩
    cases x <;> first | (exact absurd hx Bool.false_ne_true) | skip
    cases y <;> first | (exact absurd hy Bool.false_ne_true) | skip
    rename_i n wt
    have hk := q1 n wt rfl rfl hx hy
    have hw := of_decide_eq_true hy
    obtain ⟨⟨dx, hp⟩, hd, nd, hl, r1, r2⟩ := id D
    have npd := D.ne
    -- self.total += weight
    refine ⟨_, rfl, p, C, dx, _, _, rfl, hp, T.cl, T.nT, dfl_total _ _ _ _, _, rfl, _, _, rfl, rfl, dx, _, hp, (by show 4 < 1000; decide), ?_⟩
    rw [dfl_put_total]
    have hd1 : ∀ o, (upd H p o) d = some (.dK (kvc c)) := fun o => by rw [upd_ne npd.symm]; exact hd
    -- name not in self.counts and len(self.counts) == self.room
    refine ⟨_, rfl, _, rfl, p, C, dx, _, _, rfl, upd_same, T.cl, T.nC, dfl_counts _ _ _ _, d, _, rfl, DGet.of (.inl (hd1 _)) n, _, rfl, ?_⟩
    have eh : (!((getC c n).map V.int).isSome) = !hasC c n := by rw [has_get, Option.isSome_map]
    rw [eh]
    -- what the last two rows do, from a table c1 at d1 and a weight w1 that is left
    have last : ∀ (H2 : Hp) (d1 : Addr) (c1 : CM) (g1 w1 : Int) (v3 : Option V), 0 ≤ w1 → (d1 = d ∨ H d1 = none) → Off [p, d] H H2 → H2 p = some (.ins C dx (dfl room d1 g1 (total + wt))) → H2 d1 = some (.dK (kvc c1)) → c1.length ≤ 50 →
        (come room c n wt).1 = (if 0 < w1 then putC c1 n (getD0 c1 n + w1) else c1) → gone + (come room c n wt).2 = g1 →
        (tIfS (tTest (tOp (rI0 fun i j => .bl (decide (j < i))) (tVar 2) (tC (.int 0)))) (sDPut (tFld K (tVar 0) "counts") (tVar 1) (tOp (rI0 fun i j => .int (i + j)) (tDGet2 (tFld K (tVar 0) "counts") (tVar 1) (tC (.int 0))) (tVar 2))) tNext)
          { nx := fun _ H' => Q .non H', rt := Q } [some (.ref p), some (.str n), some (.int w1), v3] H2 := by
      intro H2 d1 c1 g1 w1 v3 h0 hd' off ho hc hlen e1 e2
      have npd1 : p ≠ d1 := ne_of ho hc (fun z => nomatch z)
      refine ⟨_, rfl, _, _, rfl, rfl, _, rfl, ?_⟩
      refine ite2 (fun h => ?_) (fun h => ?_)
      · have hlt : 0 < w1 := of_decide_eq_true h
        rw [if_pos hlt] at e1
        refine ⟨_, rfl, p, C, dx, _, _, rfl, ho, T.cl, T.nC, dfl_counts _ _ _ _, d1, rfl, IsD.of (.inl hc), _, rfl, _, DGet.of (.inl hc) n, ?_⟩
        rw [getD_map]
        refine ⟨_, rfl, _, _, rfl, rfl, _, rfl, p, C, dx, _, _, rfl, ho, T.cl, T.nC, dfl_counts _ _ _ _, _, rfl, d1, _, rfl, DPut.of hc n _ (small (by omega)), ?_⟩
        refine hk _ d1 hd' (fun b o hb e => ?_) ⟨⟨dx, ?_⟩, ?_, come_nodup nd, come_len hl, r1, r2⟩
        · have nb : b ≠ d1 := by
            rcases hd' with z | z
            · rw [z]
              exact fun y => hb (by rw [y]; exact List.mem_cons_of_mem _ (List.mem_cons_self ..))
            · exact ne_of_none e z
          rw [upd_ne nb]
          exact off b o hb e
        · rw [upd_ne npd1, ho, e2]
        · rw [upd_same, e1]
          rfl
      · have hlt : ¬ 0 < w1 := fun z => h (decide_eq_true z)
        rw [if_neg hlt] at e1
        exact hk _ d1 hd' off ⟨⟨dx, by rw [ho, e2]⟩, by rw [hc, e1], come_nodup nd, come_len hl, r1, r2⟩
    have offp : ∀ o, Off [p, d] H (upd H p o) := fun o => Off.upd (List.mem_cons_self ..)
    have plain : ¬ (hasC c n = false ∧ (c.length : Int) = room) → ∀ v3, (tIfS (tTest (tOp (rI0 fun i j => .bl (decide (j < i))) (tVar 2) (tC (.int 0)))) (sDPut (tFld K (tVar 0) "counts") (tVar 1) (tOp (rI0 fun i j => .int (i + j)) (tDGet2 (tFld K (tVar 0) "counts") (tVar 1) (tC (.int 0))) (tVar 2))) tNext)
          { nx := fun _ H' => Q .non H', rt := Q } [some (.ref p), some (.str n), some (.int wt), v3] (upd H p (.ins C dx (dfl room d gone (total + wt)))) := fun hn v3 => by
      refine last _ d c gone wt v3 (by omega) (.inl rfl) (offp _) upd_same (hd1 _) D.len ?_ ?_
      · unfold come
        rw [if_neg hn, if_pos (by omega)]
      · unfold come
        rw [if_neg hn]
        exact Int.add_zero _
    cases hh : hasC c n with
    | true => exact iteF (iteF (plain (fun z => by rw [hh] at z; cases z.1) _))
    | false =>
      refine iteT ?_
      refine ⟨_, rfl, p, C, dx, _, _, rfl, upd_same, T.cl, T.nC, dfl_counts _ _ _ _, d, _, rfl, hd1 _, _, rfl, p, C, dx, _, _, rfl, upd_same, T.cl, T.nR, dfl_room _ _ _ _, rfl, _, rfl, ?_⟩
      rw [len_kvc]
      refine ite2 (fun h => ?_) (fun h => ?_)
      · have hfull : (c.length : Int) = room := V.int.inj (of_decide_eq_true h)
        -- less = min([weight] + list(self.counts.values()))
        refine ⟨_, rfl, (by rw [sizeLine_eq]; show 1 ≤ 16777216; decide), fun l hl1 => ?_⟩
        have dl : d ≠ l := fun z => by rw [← z, hd1] at hl1; cases hl1
        have pl : p ≠ l := fun z => by rw [← z, upd_same] at hl1; cases hl1
        refine ⟨_, rfl, p, C, dx, _, _, rfl, (by rw [upd_ne pl]; exact upd_same), T.cl, T.nC, dfl_counts _ _ _ _, (.inr (.inr (.inl ⟨rfl, .inl ⟨_, by rw [upd_ne dl]; exact hd1 _⟩⟩))), d, kvc c, rfl, rfl, (by rw [upd_ne dl]; exact hd1 _), fun v hv => ?_⟩
        have dv : d ≠ v := fun z => by rw [← z, upd_ne dl, hd1] at hv; cases hv
        have pv' : p ≠ v := fun z => by rw [← z, upd_ne pl, upd_same] at hv; cases hv
        have lv : l ≠ v := fun z => by rw [← z, upd_same] at hv; cases hv
        refine ⟨v, d, kvc c, rfl, upd_same, (by rw [upd_ne dv, upd_ne dl]; exact hd1 _), fun l2 hl2 => ?_⟩
        have dl2 : d ≠ l2 := fun z => by rw [← z, upd_ne dv, upd_ne dl, hd1] at hl2; cases hl2
        have pl2 : p ≠ l2 := fun z => by rw [← z, upd_ne pv', upd_ne pl, upd_same] at hl2; cases hl2
        have ll2 : l ≠ l2 := fun z => by rw [← z, upd_ne lv, upd_same] at hl2; cases hl2
        refine ⟨l, l2, [.int wt], (kvc c).map (·.2), rfl, rfl, (by rw [upd_ne ll2, upd_ne lv]; exact upd_same), upd_same, ?_, fun l3 hl3 => ?_⟩
        · rw [List.length_map, len_kvc, sizeLine_eq]
          have := D.len
          simp only [List.length_cons, List.length_nil]
          omega
        have nl3 : ∀ b o, upd H p (.ins C dx (dfl room d gone (total + wt))) b = some o → (upd (upd (upd (upd (upd H p (.ins C dx (dfl room d gone (total + wt)))) l (.lst [.int wt])) v (viewV v d)) l2 (.lst ((kvc c).map (·.2)))) l3 (.lst ([.int wt] ++ (kvc c).map (·.2)))) b = some o := fun b o e => by
          have b1 : b ≠ l := ne_of_none e hl1
          have b2 : b ≠ v := fun z => by rw [← z, upd_ne b1, e] at hv; cases hv
          have b3 : b ≠ l2 := fun z => by rw [← z, upd_ne b2, upd_ne b1, e] at hl2; cases hl2
          have b4 : b ≠ l3 := fun z => by rw [← z, upd_ne b3, upd_ne b2, upd_ne b1, e] at hl3; cases hl3
          rw [upd_ne b4, upd_ne b3, upd_ne b2, upd_ne b1]
          exact e
        have hL3 : (upd (upd (upd (upd (upd H p (.ins C dx (dfl room d gone (total + wt)))) l (.lst [.int wt])) v (viewV v d)) l2 (.lst ((kvc c).map (·.2)))) l3 (.lst ([.int wt] ++ (kvc c).map (·.2)))) l3 = some (.lst ((wt :: valsC c).map V.int)) := by
          rw [upd_same, snd_kvc]
          rfl
        revert nl3 hL3
        generalize upd (upd (upd (upd (upd H p (.ins C dx (dfl room d gone (total + wt)))) l (.lst [.int wt])) v (viewV v d)) l2 (.lst ((kvc c).map (·.2)))) l3 (.lst ([.int wt] ++ (kvc c).map (·.2))) = H5
        intro nl3 hL3
        have hp5 := nl3 p _ upd_same
        have hd5 := nl3 d _ (hd1 _)
        refine ⟨l3, wt :: valsC c, rfl, SqL.of hL3, (by rw [List.length_cons]; omega), fun m hm hle => ?_⟩
        have em : m = minL wt (valsC c) := minL_uniq (by
          rcases List.mem_cons.mp hm with z | z
          · exact .inl z
          · exact .inr z) (hle _ (List.mem_cons_self ..)) (fun y hy => hle y (List.mem_cons_of_mem _ hy))
        have mle : m ≤ wt := hle _ (List.mem_cons_self ..)
        -- self.counts = lowered(self.counts, less)
        refine ⟨_, rfl, p, C, dx, _, _, rfl, hp5, T.cl, T.nC, dfl_counts _ _ _ _, _, rfl, d, c, m, rfl, hd5, nd, (by have := D.len; omega), fun H6 d' hd' ex6 hd6 => ?_⟩
        have hp6 := ex6 p _ hp5
        have npd' : p ≠ d' := ne_of hp6 hd6 (fun z => nomatch z)
        refine ⟨_, rfl, p, C, dx, _, rfl, hp6, T.cl, T.nC, (by show 4 < 1000; decide), ?_⟩
        rw [dfl_put_counts]
        -- self.gone += less; weight -= less
        refine ⟨_, rfl, p, C, dx, _, _, rfl, upd_same, T.cl, T.nG, dfl_gone _ _ _ _, _, rfl, _, _, rfl, rfl, dx, _, upd_same, (by show 4 < 1000; decide), ?_⟩
        rw [dfl_put_gone]
        refine ⟨_, rfl, _, rfl, _, _, rfl, rfl, ?_⟩
        have hd0 : H d' = none := by
          cases e : H d' with
          | none => rfl
          | some o =>
            have b1 : d' ≠ p := npd'.symm
            have := nl3 d' o (by rw [upd_ne b1]; exact e)
            rw [this] at hd'
            cases hd'
        refine last _ d' (lowered c m) (gone + m) (wt - m) _ (by omega) (.inr hd0) (fun b o hb e => ?_) upd_same (by rw [upd_ne npd'.symm, upd_ne npd'.symm]; exact hd6) (by have := lowered_len c m; have := D.len; omega) ?_ ?_
        · have nb : b ≠ p := fun z => hb (by rw [z]; exact List.mem_cons_self ..)
          rw [upd_ne nb, upd_ne nb]
          exact ex6 b o (nl3 b o (by rw [upd_ne nb]; exact e))
        · unfold come
          rw [if_pos ⟨hh, hfull⟩, ← em]
        · unfold come
          rw [if_pos ⟨hh, hfull⟩, ← em]
      · have hfull : ¬ (c.length : Int) = room := fun z => h (decide_eq_true (congrArg V.int z))
        exact plain (fun z => hfull z.2) _
end
section
variable {P : Program} {w : World} {K : PySem.W.Frag} {mg : Str → Option Value} {base : Heap} {C CN CW CD : Addr}
/-- shown(): a new dict, in the order of the names -/
def spShown (C : Addr) : Sp := fun vs H Q _ => ∃ p d room c gone total, vs = [.ref p] ∧ DeskAt C H p d room c gone total ∧ ∀ (H' : Hp) (q : Addr), H q = none → Ex H H' → H' q = some (.dK (kvc (sortC c))) → Q (.ref q) H'
theorem ok_shown {f : Addr} {fd : FuncData} (F : Fun K "shown" "Desk.shown" sDShown f fd) (T : DkT K mg C CN CW CD) : FnOk P w K mg base CX0 1 f fd pDShown (spShown C) := by
  refine F.ok cDShown (fun vs H Q E h => ?_) (fun cdv A outer s H vs Q E hr h => ?_)
  · obtain ⟨p, d, room, c, gone, total, rfl, _⟩ := h
    rfl
  · obtain ⟨p, d, room, c, gone, total, rfl, D, q⟩ := h
    refine ⟨_, pss_one (ps_ret (pe_callTy (call_dictP rfl) (by rfl) T.dct (by decide +kernel) (pa_cons (pe_callB (cr_sortedI rfl) (by rfl) T.srt (by decide +kernel)
      (pa_cons (pe_bm0 PySem.F.plainAttrs_dict PySem.F.slot_dict_items PySem.F.type_dict_items mt_items (pe_fld (pv 0) rfl)) pa_nil)) pa_nil))), ?_⟩
    obtain ⟨dx, hp⟩ := D.ob
    refine ⟨_, rfl, p, C, dx, _, _, rfl, hp, T.cl, T.nC, dfl_counts _ _ _ _, (.inr (.inr (.inl ⟨rfl, .inl ⟨_, D.dc⟩⟩))), d, kvc c, rfl, rfl, D.dc, fun v hv => ?_⟩
    have dv : d ≠ v := ne_of_none D.dc hv
    refine ⟨v, d, c, rfl, upd_same, (by rw [upd_ne dv]; exact D.dc), D.nd, fun H2 l ts c' ex hl hts pm as hL hP => ?_⟩
    have e : c' = sortC c := sortC_eq D.nd pm (sortC_asc' as)
    subst e
    refine ⟨l, ts, _, rfl, SqL.of hL, prs_paired hP, fun q' hq' => ?_⟩
    rw [merge_kvc (sortC_nodup D.nd)]
    have ex2 : Ex H H2 := fun b o eb => ex b o (by rw [upd_ne (ne_of_none eb hv)]; exact eb)
    refine q _ q' ?_ (fun b o eb => ?_) upd_same
    · cases e : H q' with
      | none => rfl
      | some o =>
        rw [ex2 _ _ e] at hq'
        cases hq'
    · rw [upd_ne (ne_of_none (ex2 b o eb) hq')]
      exact ex2 b o eb
/-- a number that a Desk holds -/
def spNum (C : Addr) (g : Int → Int → Int → Int) : Sp := fun vs H Q _ => ∃ p d room c gone total, vs = [.ref p] ∧ DeskR C H p d room c gone total ∧ Q (.int (g room gone total)) H
theorem ok_lost {f : Addr} {fd : FuncData} (F : Fun K "lost" "Desk.lost" sDLost f fd) (T : DkT K mg C CN CW CD) : FnOk P w K mg base CX0 1 f fd pDLost (spNum C fun _ g _ => g) := by
  refine F.ok cDLost (fun vs H Q E h => ?_) (fun cdv A outer s H vs Q E hr h => ?_)
  · obtain ⟨p, d, room, c, gone, total, rfl, _⟩ := h
    rfl
  · obtain ⟨p, d, room, c, gone, total, rfl, ⟨⟨dx, hp⟩, _⟩, q⟩ := h
    refine ⟨_, pss_one (ps_ret (pe_fld (pv 0) rfl)), ?_⟩
    exact ⟨_, rfl, p, C, dx, _, _, rfl, hp, T.cl, T.nG, dfl_gone _ _ _ _, q⟩
theorem ok_weight {f : Addr} {fd : FuncData} (F : Fun K "weight" "Desk.weight" sDWeight f fd) (T : DkT K mg C CN CW CD) : FnOk P w K mg base CX0 1 f fd pDWeight (spNum C fun _ _ t => t) := by
  refine F.ok cDWeight (fun vs H Q E h => ?_) (fun cdv A outer s H vs Q E hr h => ?_)
  · obtain ⟨p, d, room, c, gone, total, rfl, _⟩ := h
    rfl
  · obtain ⟨p, d, room, c, gone, total, rfl, ⟨⟨dx, hp⟩, _⟩, q⟩ := h
    refine ⟨_, pss_one (ps_ret (pe_fld (pv 0) rfl)), ?_⟩
    exact ⟨_, rfl, p, C, dx, _, _, rfl, hp, T.cl, T.nT, dfl_total _ _ _ _, q⟩
theorem ok_drawers {f : Addr} {fd : FuncData} (F : Fun K "drawers" "Desk.drawers" sDDrawers f fd) (T : DkT K mg C CN CW CD) : FnOk P w K mg base CX0 1 f fd pDDrawers (spNum C fun r _ _ => r) := by
  refine F.ok cDDrawers (fun vs H Q E h => ?_) (fun cdv A outer s H vs Q E hr h => ?_)
  · obtain ⟨p, d, room, c, gone, total, rfl, _⟩ := h
    rfl
  · obtain ⟨p, d, room, c, gone, total, rfl, ⟨⟨dx, hp⟩, _⟩, q⟩ := h
    refine ⟨_, pss_one (ps_ret (pe_fld (pv 0) rfl)), ?_⟩
    exact ⟨_, rfl, p, C, dx, _, _, rfl, hp, T.cl, T.nR, dfl_room _ _ _ _, q⟩
end
section
variable {P : Program} {w : World} {K : PySem.W.Frag} {mg : Str → Option Value} {base : Heap} {C CN CW CD : Addr}
/-- least(name), most(name): u is what is added -/
def spLeast (K : PySem.W.Frag) (C CN : Addr) (u : Int → Int) : Sp := fun vs H Q E => ∃ p d room c gone total x, vs = [.ref p, x] ∧ DeskR C H p d room c gone total ∧ Thing K H x ∧ (∀ z, x = .str z → z.length ≤ sizeLine) ∧
  (∀ n, x = .str n → isName n = true → Q (.int (getD0 c n + u gone)) H) ∧ (isNameV x = false → E (.ref CN) none H)
theorem name_size {n : Str} (h : isName n = true) : n.length ≤ sizeLine := by
  unfold isName at h
  rw [Bool.and_eq_true] at h
  have := of_decide_eq_true h.1
  rw [sizeLine_eq]
  omega
/-- the names shown whose share is more, rising -/
def overS (room : Int) (c : CM) (u total : Int) : List Str := sortS ((keysC c).filter fun n => decide (total < (getD0 c n + u) * (room + 1)))
def spOver (C : Addr) (u : Int → Int) : Sp := fun vs H Q _ => ∃ p d room c gone total, vs = [.ref p] ∧ DeskAt C H p d room c gone total ∧ (∀ n ∈ keysC c, isName n = true) ∧
  ∀ (H' : Hp) (q : Addr), H q = none → Ex H H' → H' q = some (.lst ((overS room c (u gone) total).map V.str)) → Q (.ref q) H'
abbrev tOver (K : PySem.W.Frag) (C CN : Addr) (m : Str) (u : Int → Int) : TT := tTest (tOp (rI0 fun i j => .bl (decide (j < i))) (tOp (rI CMul fun i j => .int (i * j)) (tMeth C m (spLeast K C CN u) [] E0 (tVar 0) (tCons (tVar 1) tNil)) (tOp (rI0 fun i j => .int (i + j)) (tFld K (tVar 0) "room") (tC (.int 1)))) (tFld K (tVar 0) "total"))
/-- the reading of sorted([name for name in self.counts if self.F(name) * (self.room + 1) > self.total]) -/
theorem over_reads {u : Int → Int} {Q : VK} {H : Hp} {p d : Addr} {room : Int} {c : CM} {gone total : Int} {m : Str} (T : DkT K mg C CN CW CD) (D : DeskAt C H p d room c gone total) (hn : ∀ n ∈ keysC c, isName n = true)
    (hm : (m == "room") = false ∧ (m == "counts") = false ∧ (m == "gone") = false ∧ (m == "total") = false)
    (q : ∀ (H' : Hp) (q : Addr), H q = none → Ex H H' → H' q = some (.lst ((overS room c (u gone) total).map V.str)) → Q (.ref q) H') :
    tCB (rSortedS K) (tCons (tLockE (tLc (iKeys (tFld K (tVar 0) "counts")) (gName 1) (tOver K C CN m u) (tVar 1) [1])) tNil)
      [some (.ref p), none] H Q := by
  obtain ⟨⟨dx, hp⟩, hd, nd, hl, r1, r2⟩ := id D
  have npd := D.ne
  refine ⟨d, .dK (kvc c), hd, trivial, fun od => ?_⟩
  refine ⟨_, rfl, p, C, dx, _, _, rfl, (by rw [upd_ne npd]; exact hp), T.cl, T.nC, dfl_counts _ _ _ _, d, od, rfl, .inl ⟨kvc c, upd_same, fun L hL => ?_⟩⟩
  have dL : d ≠ L := fun z => by rw [← z, upd_same] at hL; cases hL
  have pL : p ≠ L := fun z => by rw [← z, upd_ne npd, hp] at hL; cases hL
  have hL0 : H L = none := by
    rw [upd_ne dL.symm] at hL
    exact hL
  refine lc_it (n := c.length) (fun i H2 => H2 d = some (.frz od (.dK (kvc c))) ∧ (∀ b o, b ≠ d → H b = some o → H2 b = some o) ∧ H2 L = some (.lst ((((keysC c).take i).filter fun n => decide (total < (getD0 c n + u gone) * (room + 1))).map V.str)))
    ⟨by rw [upd_ne dL]; exact upd_same, fun b o hb e => by rw [upd_ne (ne_of_none e hL0), upd_ne hb]; exact e, upd_same⟩ ?_ ?_ ?_ ?_
  · rintro i H2 hi ⟨h1, h2, h3⟩
    exact ⟨h1, by rw [len_kvc]; exact hi⟩
  · rintro H2 ⟨h1, h2, h3⟩
    exact ⟨h1, by rw [len_kvc]; exact Nat.le_refl _⟩
  · rintro i H2 hi ⟨h1, h2, h3⟩ x H3 ⟨rfl, k, v, hk, rfl⟩
    have ei : c[i]? = some c[i] := List.getElem?_eq_getElem hi
    have e0 : (kvc c)[i]? = some (Sum.inr c[i].1, V.int c[i].2) := by
      unfold kvc
      rw [List.getElem?_map, ei]
      rfl
    rw [e0] at hk
    cases hk
    have ek : (keysC c)[i]? = some c[i].1 := by
      unfold keysC
      rw [List.getElem?_map, ei]
      rfl
    have hn1 := hn _ (List.mem_of_getElem? ek)
    have hp2 := h2 p _ npd hp
    have hil : i < (keysC c).length := (List.getElem?_eq_some_iff.mp ek).1
    have tk : (keysC c).take (i + 1) = (keysC c).take i ++ [c[i].1] := by
      rw [List.take_succ_eq_append_getElem hil]
      rw [(List.getElem?_eq_some_iff.mp ek).2]
    refine ⟨rfl, _, rfl, p, dx, _, rfl, hp2, dfl_no _ _ _ _ hm, _, rfl, p, d, room, c, gone, total, .str c[i].1, rfl, ⟨⟨dx, hp2⟩, .inr ⟨od, h1⟩⟩, thing_str _, fun z e => ?_, fun n en _ => ?_, fun hx => ?_⟩
    · cases e
      exact name_size hn1
    · cases en
      refine ⟨_, rfl, p, C, dx, _, _, rfl, hp2, T.cl, T.nR, dfl_room _ _ _ _, _, _, rfl, rfl, _, _, rfl, rfl, .inr ⟨by omega, by omega⟩, _, rfl, p, C, dx, _, _, rfl, hp2, T.cl, T.nT, dfl_total _ _ _ _, _, _, rfl, rfl, _, rfl, ?_⟩
      refine ite2 (fun h => ?_) (fun h => ?_)
      · refine ⟨_, rfl, _, h3, small ?_, by rw [upd_ne dL]; exact h1, fun b o hb e => by rw [upd_ne (ne_of_none e hL0)]; exact h2 b o hb e, ?_⟩
        · rw [List.length_map]
          have a1 := List.length_filter_le (fun n => decide (total < (getD0 c n + u gone) * (room + 1))) ((keysC c).take i)
          have a2 : ((keysC c).take i).length ≤ i := by rw [List.length_take]; omega
          have := D.len
          omega
        · rw [upd_same, tk, List.filter_append, List.map_append]
          have : [c[i].1].filter (fun n => decide (total < (getD0 c n + u gone) * (room + 1))) = [c[i].1] := by
            exact List.filter_cons_of_pos (p := fun n => decide (total < (getD0 c n + u gone) * (room + 1))) h
          rw [this]
          rfl
      · refine ⟨h1, h2, ?_⟩
        rw [h3, tk, List.filter_append, List.map_append]
        have : [c[i].1].filter (fun n => decide (total < (getD0 c n + u gone) * (room + 1))) = [] := by
          exact List.filter_cons_of_neg (p := fun n => decide (total < (getD0 c n + u gone) * (room + 1))) h
        rw [this]
        simp
    · rw [show isNameV (.str c[i].1) = true from hn1] at hx
      cases hx
  · rintro H2 ⟨h1, h2, h3⟩
    refine ⟨h1, L, (keysC c).filter fun n => decide (total < (getD0 c n + u gone) * (room + 1)), rfl, SqL.of ?_, ?_, fun ys l pm so hl' => ?_⟩
    · rw [upd_ne dL.symm, h3, List.take_of_length_le (by unfold keysC; rw [List.length_map]; exact Nat.le_refl _)]
    · have a1 := List.length_filter_le (fun n => decide (total < (getD0 c n + u gone) * (room + 1))) (keysC c)
      have a2 : (keysC c).length = c.length := by unfold keysC; rw [List.length_map]
      have := D.len
      omega
    · have ex1 : Ex H (upd H2 d (.dK (kvc c))) := fun b o e => by
        by_cases hb : b = d
        · rw [hb, upd_same]
          rw [hb, hd] at e
          exact e
        · rw [upd_ne hb]
          exact h2 b o hb e
      have hl0 : H l = none := by
        cases e : H l with
        | none => rfl
        | some o =>
          rw [ex1 _ _ e] at hl'
          cases hl'
      refine q _ l hl0 (fun b o e => by rw [upd_ne (ne_of_none (ex1 b o e) hl')]; exact ex1 b o e) ?_
      rw [upd_same, sortS_eq pm (sortedS_pw so)]
      rfl
end
/-! ### what a law draws -/
section
variable {P : Program} {w : World} {K : PySem.W.Frag} {mg : Str → Option Value} {base : Heap}
def spMixed : Sp := fun vs H Q _ => ∃ (c k : Int), vs = [.int c, .int k] ∧ ∀ m : Int, 0 ≤ m → m < 2147483647 → Q (.int m) H
theorem ok_mixed {f : Addr} {fd : FuncData} (F : Fun K "_law_mixed" "_law_mixed" sLMixed f fd) : FnOk P w K mg base CX0 1 f fd pLMixed spMixed := by
  refine F.ok cLMixed (fun vs H Q E h => ?_) (fun cdv A outer s H vs Q E hr h => ?_)
  · obtain ⟨c, k, rfl, _⟩ := h
    rfl
  · obtain ⟨c, k, rfl, q⟩ := h
    refine ⟨_, pss_cons (ps_set (i := 2) cLMixed.nd rfl (Or.inl rfl) (pe_op op_mod (pe_op op_mul (pe_op op_add (pe_op op_mod (pv 0) pe_int) (pe_op op_mul pe_int (pe_op op_add (pv 1) pe_int))) pe_int) pe_int))
      (pss_one (ps_ret (pe_op op_mod (pe_op op_mul (pe_op op_mod (pe_op op_mul (pv 2) (pv 2)) pe_int) pe_int) pe_int))), ?_⟩
    refine ⟨_, rfl, _, _, rfl, rfl, (by show (0 : Int) < _; decide), _, rfl, _, _, rfl, rfl, _, _, rfl, rfl, .inl (by decide), _, _, rfl, rfl, _, _, rfl, rfl, .inr (by decide), _, _, rfl, rfl, (by show (0 : Int) < _; decide), ?_⟩
    have h0 := Int.emod_nonneg ((c % 2147483629 + 104729 * (k + 1)) * 16807) (show (2147483647 : Int) ≠ 0 by decide)
    have h1 := Int.emod_lt_of_pos ((c % 2147483629 + 104729 * (k + 1)) * 16807) (show (0 : Int) < 2147483647 by decide)
    generalize (c % 2147483629 + 104729 * (k + 1)) * 16807 % 2147483647 = z at h0 h1 ⊢
    refine ⟨_, rfl, _, rfl, _, _, rfl, rfl, .inl ⟨by omega, by omega⟩, _, _, rfl, rfl, (by show (0 : Int) < _; decide), _, _, rfl, rfl, .inr (by decide), _, _, rfl, rfl, (by show (0 : Int) < _; decide), ?_⟩
    exact q _ (Int.emod_nonneg _ (by decide)) (Int.emod_lt_of_pos _ (by decide))
def spDrawers (K : PySem.W.Frag) : Sp := fun vs H Q _ => ∃ (a : Addr) (ns : List Int), vs = [.ref a] ∧ SqL K H a (ns.map V.int) ∧ ∀ (r : Int) (H' : Hp), 1 ≤ r → r ≤ 50 → Ex H H' → Q (.int r) H'
/-- script[i] if script else 0: some whole number -/
theorem cell_reads {Q : VK} {H : Hp} {a : Addr} {ns : List Int} {i : Int} {ti : TE} {σ : L2.St} (hσ : σ[0]? = some (some (.ref a))) (ht : ∀ Q : VK, Q (.int i) H → ti σ H Q) (h : SqL K H a (ns.map V.int)) (hi : i = 0 ∨ i = -1) (q : ∀ z : Int, Q (.int z) H) :
    tIf (fun σ H Q => tVar 0 σ H fun x H' => ∃ k, TruV K x H' k ∧ Q k H') (tOp (rIxL K) (tVar 0) ti) (tC (.int 0)) σ H Q := by
  refine ⟨_, hσ, _, .inl ⟨_, h, rfl⟩, ?_⟩
  cases ns with
  | nil => exact q 0
  | cons z ns =>
    refine ite2 (fun _ => ?_) (fun hh => absurd rfl hh)
    rcases hi with rfl | rfl
    · exact ⟨_, hσ, ht _ ⟨a, _, _, _, rfl, rfl, h, atI_nat (j := 0) rfl, q z⟩⟩
    · obtain ⟨l, y, e⟩ : ∃ l y, z :: ns = l ++ [y] := ⟨(z :: ns).dropLast, (z :: ns).getLast (by simp), (List.dropLast_concat_getLast _).symm⟩
      refine ⟨_, hσ, ht _ ⟨a, _, _, V.int y, rfl, rfl, h, ?_, q y⟩⟩
      rw [e, List.map_append]
      exact atI_last _ _
theorem ok_drawersL {f : Addr} {fd : FuncData} (F : Fun K "_law_drawers" "_law_drawers" sLDrawers f fd) (GM : Gf P w K mg base CX0 1 "_law_mixed" pLMixed spMixed) : FnOk P w K mg base CX0 2 f fd pLDrawers (spDrawers K) := by
  obtain ⟨fM, fdM, gM, bM, mM, kM⟩ := GM.ex
  refine F.ok cLDrawers (fun vs H Q E h => ?_) (fun cdv A outer s H vs Q E hr h => ?_)
  · obtain ⟨a, ns, rfl, _⟩ := h
    rfl
  · obtain ⟨a, ns, rfl, hS, q⟩ := h
    refine ⟨_, pss_cons (ps_set (i := 1) cLDrawers.nd rfl (Or.inl rfl) (pe_call gM hr rfl mM kM bM .nil pass0 (pa_cons (pe_ifExp (pt_truth (pv 0) (by intro _; rfl)) (pe_ix ix_list (pv 0) (pe_un un_neg pe_int) (fun _ _ => rfl)) pe_int) (pa_cons pe_int pa_nil))))
      (pss_one (ps_ret (pe_ix ix_list (pe_lst (pa_cons (pe_op op_add pe_int (pe_op op_mod (pe_op op_fdiv (pv 1) pe_int) pe_int)) (pa_cons (pe_op op_add pe_int (pe_op op_mod (pe_op op_fdiv (pv 1) pe_int) pe_int)) (pa_cons pe_int (pa_cons pe_int pa_nil)))))
        (pe_op op_fdiv (pe_op op_mod (pv 1) pe_int) pe_int) (fun _ _ => rfl)))), ?_⟩
    refine cell_reads (K := K) (a := a) (ns := ns) (i := -1) (ti := tUn (rU fun i => .int (-i)) (tC (.int 1))) (σ := [some (.ref a), none]) (by rfl) (fun Q' h' => ⟨1, rfl, h'⟩) hS (.inr rfl) fun z => ?_
    refine ⟨z, 901, rfl, fun m m0 m1 => ?_⟩
    refine ⟨_, rfl, _, _, rfl, rfl, ⟨by decide, by decide⟩, _, _, rfl, rfl, (by show (0 : Int) < _; decide), _, _, rfl, rfl, _, rfl, _, _, rfl, rfl, ⟨by decide, by decide⟩, _, _, rfl, rfl, (by show (0 : Int) < _; decide), _, _, rfl, rfl, (by rw [sizeLine_eq]; show 4 ≤ 16777216; decide), fun l hl => ?_⟩
    refine ⟨_, rfl, _, _, rfl, rfl, (by show (0 : Int) < _; decide), _, _, rfl, rfl, ⟨by decide, by decide⟩, l, [.int (1 + m / 8 % 4), .int (1 + m / 8 % 9), .int 3, .int 50], m % 8 / 2, ?_⟩
    have h := (show m % 8 / 2 = 0 ∨ m % 8 / 2 = 1 ∨ m % 8 / 2 = 2 ∨ m % 8 / 2 = 3 by omega)
    rcases h with e | e | e | e
    · exact ⟨_, rfl, rfl, SqL.of upd_same, by rw [e]; exact atI_nat (j := 0) rfl, q _ _ (by omega) (by omega) (Evl.Ex.new hl)⟩
    · exact ⟨_, rfl, rfl, SqL.of upd_same, by rw [e]; exact atI_nat (j := 1) rfl, q _ _ (by omega) (by omega) (Evl.Ex.new hl)⟩
    · exact ⟨_, rfl, rfl, SqL.of upd_same, by rw [e]; exact atI_nat (j := 2) rfl, q _ _ (by omega) (by omega) (Evl.Ex.new hl)⟩
    · exact ⟨_, rfl, rfl, SqL.of upd_same, by rw [e]; exact atI_nat (j := 3) rfl, q _ _ (by omega) (by omega) (Evl.Ex.new hl)⟩
end
section
variable {P : Program} {w : World} {K : PySem.W.Frag} {mg : Str → Option Value} {base : Heap}
def spNames (K : PySem.W.Frag) : Sp := fun vs H Q _ => ∃ (a : Addr) (ns : List Int), vs = [.ref a] ∧ SqL K H a (ns.map V.int) ∧ ∀ (nm : List Str) (p : Addr) (H' : Hp), nm.length = 14 → NamesOk nm → H p = none → Ex H H' → H' p = some (.lst (nm.map V.str)) → Q (.ref p) H'
theorem ok_names {f : Addr} {fd : FuncData} (F : Fun K "_law_names" "_law_names" sLNames f fd) (GM : Gf P w K mg base CX0 1 "_law_mixed" pLMixed spMixed) (ml : mg "len" = none) (mn : mg "min" = none) (mr : mg "range" = none) : FnOk P w K mg base CX0 2 f fd pLNames (spNames K) := by
  obtain ⟨fM, fdM, gM, bM, mM, kM⟩ := GM.ex
  refine F.ok cLNames (fun vs H Q E h => ?_) (fun cdv A outer s H vs Q E hr h => ?_)
  · obtain ⟨a, ns, rfl, _⟩ := h
    rfl
  · obtain ⟨a, ns, rfl, hS, q⟩ := h
    refine ⟨_, pss_cons (ps_set (i := 1) cLNames.nd rfl (Or.inl rfl) pe_str)
      (pss_cons (ps_set (i := 2) cLNames.nd rfl (Or.inl rfl) (pe_call gM hr rfl mM kM bM .nil pass0 (pa_cons (pe_ifExp (pt_truth (pv 0) (by intro _; rfl)) (pe_ix ix_list (pv 0) pe_int (fun _ _ => rfl)) pe_int) (pa_cons pe_int pa_nil))))
      (pss_cons (ps_set (i := 3) cLNames.nd rfl (Or.inl rfl) (pe_op op_mulS (pe_ix ix_str (pv 1) (pe_op op_mod (pv 2) pe_int) (fun _ _ => rfl)) (pe_op op_add pe_int (pe_op op_mod (pe_op op_fdiv (pv 2) pe_int) pe_int))))
      (pss_cons (ps_set (i := 4) cLNames.nd rfl (Or.inl rfl) (pe_op op_mod (pe_op op_fdiv (pv 2) pe_int) (pe_callB call_len_str (by rfl) ml PySem.boot_len (pa_cons (pv 3) pa_nil))))
      (pss_cons (ps_set (i := 5) cLNames.nd rfl (Or.inl rfl) (pe_lst pa_nil))
      (pss_cons (ps_for PassesOwn.never rfl (pi_range1 rfl mr (pa_cons pe_int pa_nil)) (pg_name (i := 6) cLNames.nd rfl (Or.inl rfl))
        (pss_cons (ps_set (i := 7) cLNames.nd rfl (Or.inl rfl) (pe_ix ix_str (pv 1) (pe_op op_mod (pe_op op_add (pe_op op_fdiv (pv 2) pe_int) (pe_op op_mul pe_int (pv 6))) pe_int) (fun _ _ => rfl)))
        (pss_cons (ps_set (i := 8) cLNames.nd rfl (Or.inl rfl) (pe_op op_add_str (pe_op op_add_str (pe_slice sl_str (pv 3) po_none (po_some (pv 4))) (pv 7)) (pe_slice sl_str (pv 3) (po_some (pe_op op_add (pv 4) pe_int)) po_none)))
        (pss_cons (ps_if (pt_cmpR op_eq (pe_op op_mod (pv 6) pe_int) pe_int (nomark _))
          (pss_one (ps_set (i := 8) cLNames.nd rfl (Or.inl rfl) (pe_slice sl_str (pe_op op_add_str (pv 8) (pv 8)) po_none (po_some (pe_callB (call_min2 rfl) (by rfl) mn (by decide +kernel) (pa_cons pe_int (pa_cons (pe_op op_add (pe_op op_add (pe_callB call_len_str (by rfl) ml PySem.boot_len (pa_cons (pv 8) pa_nil)) pe_int) (pe_op op_mod (pv 6) pe_int)) pa_nil)))))))
          pss_nil)
        (pss_cons (ps_if (pt_cmpR op_eq (pe_op op_mod (pv 6) pe_int) pe_int (nomark _))
          (pss_one (ps_set (i := 8) cLNames.nd rfl (Or.inl rfl) (pe_slice sl_str (pv 8) po_none (po_some (pe_op op_add (pv 4) pe_int)))))
          pss_nil)
        (pss_one (ps_expr (pe_bm PySem.F.plainAttrs_list PySem.F.slot_list_append PySem.F.type_list_append mt_append (pv 5) (pa_cons (pv 8) pa_nil)))))))))
      (pss_one (ps_ret (pv 5)))))))), ?_⟩
    refine cell_reads (K := K) (a := a) (ns := ns) (i := 0) (ti := tC (.int 0)) (σ := [some (.ref a), some (.str letters), none, none, none, none, none, none, none]) (by rfl) (fun Q' h' => h') hS (.inl rfl) fun z => ?_
    refine ⟨z, 900, rfl, fun m m0 m1 => ?_⟩
    have b26 := Int.emod_nonneg m (show (26 : Int) ≠ 0 by decide)
    have b26' := Int.emod_lt_of_pos m (show (0 : Int) < 26 by decide)
    -- the base: one letter, 1 to 8 times
    refine ⟨_, rfl, _, rfl, _, _, rfl, rfl, (by show (0 : Int) < _; decide), letters, m % 26, _, rfl, rfl, (by rw [sizeLine_eq]; decide +kernel), letters_at _ b26 b26', ?_⟩
    refine ⟨_, rfl, _, _, rfl, rfl, ⟨by decide, by decide⟩, _, _, rfl, rfl, (by show (0 : Int) < _; decide), _, _, rfl, rfl, ?_⟩
    obtain ⟨L, hL, hL1, hL8⟩ : ∃ L : Nat, 1 + m / 26 % 8 = (L : Int) ∧ 1 ≤ L ∧ L ≤ 8 := ⟨(1 + m / 26 % 8).toNat, by omega, by omega, by omega⟩
    dsimp only
    rw [hL]
    refine ⟨_, _, rfl, rfl, mulS_ok rfl (by omega) (by omega), ?_⟩
    have hbase := mulS_cs (97 + (m % 26).toNat) L hL1 hL8
    generalize PySem.Txt.mul ⟨#[97 + (m % 26).toNat]⟩ (L : Int) = bs at hbase ⊢
    have hbl : bs.length = L := by rw [cs_len, hbase, List.length_replicate]
    -- the place
    refine ⟨_, rfl, _, _, rfl, rfl, ⟨by decide, by decide⟩, _, rfl, bs, rfl, (by rw [hbl, sizeLine_eq]; omega), _, _, rfl, rfl, (by show (0 : Int) < (bs.length : Int); rw [hbl]; omega), ?_⟩
    dsimp only
    rw [hbl]
    have hp0 := Int.emod_nonneg (m / 208) (show ((L : Nat) : Int) ≠ 0 by omega)
    have hp1 := Int.emod_lt_of_pos (m / 208) (show (0 : Int) < ((L : Nat) : Int) by omega)
    obtain ⟨at_, hat⟩ : ∃ k : Nat, m / 208 % (L : Int) = (k : Int) := ⟨(m / 208 % (L : Int)).toNat, by omega⟩
    rw [hat] at hp1 ⊢
    have hatL : at_ < L := by omega
    refine ⟨Nat.zero_le _, fun p hp => ?_⟩
    refine ⟨14, rfl, by decide, by decide, for_range (lo := 0) (n := 14) (fun i σ H2 => ∃ (nm : List Str) (v6 v7 v8 : Option V), σ = [some (.ref a), some (.str letters), some (.int m), some (.str bs), some (.int (at_ : Int)), some (.ref p), v6, v7, v8] ∧ Ex H H2 ∧ nm.length = i ∧ i ≤ 14 ∧
        (∀ (k : Nat) (z : Str), nm[k]? = some z → WordAt (m / 1664) at_ k z) ∧ H2 p = some (.lst (nm.map V.str)))
      ⟨[], none, none, none, rfl, Evl.Ex.new hp, rfl, by decide, fun k z e => by simp at e, upd_same⟩ ?_ ?_⟩
    · rintro i σ H2 hi ⟨nm, v6, v7, v8, rfl, ex, hl, hi', hw, h2⟩
      have hk : (0 : Int) + (i : Int) = (i : Int) := Int.zero_add _
      show tSeq _ _ _ _ _
      have c0 := Int.emod_nonneg (m / 1664 + 5 * (i : Int)) (show (26 : Int) ≠ 0 by decide)
      have c1 := Int.emod_lt_of_pos (m / 1664 + 5 * (i : Int)) (show (0 : Int) < 26 by decide)
      dsimp only
      rw [hk]
      refine ⟨_, rfl, _, rfl, _, _, rfl, rfl, ⟨by decide, by decide⟩, _, rfl, _, _, rfl, rfl, .inl (by decide), _, _, rfl, rfl, _, _, rfl, rfl, (by show (0 : Int) < _; decide), letters, _, _, rfl, rfl, (by rw [sizeLine_eq]; decide +kernel), letters_at _ c0 c1, ?_⟩
      obtain ⟨lc, hlc⟩ : ∃ lc : Nat, lc = 97 + ((m / 1664 + 5 * (i : Int)) % 26).toNat := ⟨_, rfl⟩
      dsimp only
      rw [← hlc]
      -- the word
      have szb : bs.length ≤ sizeLine := by rw [hbl, sizeLine_eq]; omega
      refine ⟨_, rfl, _, rfl, _, rfl, bs, rfl, szb, _, rfl, _, _, rfl, rfl, ?_, ?_⟩
      · have := cutS_length bs none (some (at_ : Int))
        show _ + 1 ≤ _
        rw [sizeLine_eq]
        omega
      have e1 : (at_ : Int) + 1 = ((at_ + 1 : Nat) : Int) := by omega
      refine ⟨_, rfl, _, rfl, _, _, rfl, rfl, _, rfl, ?_⟩
      dsimp only
      rw [e1]
      refine ⟨bs, rfl, szb, ?_⟩
      have w0 : cs (cutS bs none (some (at_ : Int)) ++ ⟨#[lc]⟩ ++ cutS bs (some ((at_ + 1 : Nat) : Int)) none) = (cs bs).take at_ ++ [lc] ++ (cs bs).drop (at_ + 1) := by
        rw [cs_app, cs_app, cut_to, cut_from]
      have hwl : ((cs bs).take at_ ++ [lc] ++ (cs bs).drop (at_ + 1)).length = L := by
        rw [List.length_append, List.length_append, List.length_take, List.length_drop, hbase, List.length_replicate]
        simp only [List.length_cons, List.length_nil]
        omega
      refine ⟨_, _, rfl, rfl, ?_, ?_⟩
      · have l1 : (cutS bs none (some (at_ : Int)) ++ ⟨#[lc]⟩).length ≤ 9 := by
          rw [cs_len, cs_app, cut_to, List.length_append, List.length_take, hbase, List.length_replicate]
          show _ + 1 ≤ 9
          omega
        have l2 := cutS_length bs (some ((at_ + 1 : Nat) : Int)) none
        rw [sizeLine_eq]
        omega
      generalize cutS bs none (some (at_ : Int)) ++ ⟨#[lc]⟩ ++ cutS bs (some ((at_ + 1 : Nat) : Int)) none = wd at w0 ⊢
      have low : ∀ c ∈ cs wd, 97 ≤ c ∧ c ≤ 122 := by
        intro c hc
        rw [w0, List.mem_append, List.mem_append] at hc
        have rep : c ∈ cs bs → 97 ≤ c ∧ c ≤ 122 := fun h => by
          rw [hbase, List.mem_replicate] at h
          omega
        rcases hc with (hc | hc) | hc
        · exact rep (List.mem_of_mem_take hc)
        · rw [List.mem_singleton] at hc
          omega
        · exact rep (List.mem_of_mem_drop hc)
      have hwdl : (cs wd).length = L := by rw [w0]; exact hwl
      have atw : (cs wd)[at_]? = some lc := by
        rw [w0, List.append_assoc, List.getElem?_append_right (by rw [List.length_take]; omega)]
        have : at_ - ((cs bs).take at_).length = 0 := by rw [List.length_take, hbase, List.length_replicate]; omega
        rw [this]
        rfl
      -- what the rest makes of a word that has its letter
      have fin : ∀ (z : Str) (v7' : Option V), (∀ c ∈ cs z, 97 ≤ c ∧ c ≤ 122) → 1 ≤ (cs z).length → (cs z).length ≤ 8 → (cs z)[at_]? = some lc → ∀ H3, Ex H H3 → H3 p = some (.lst (nm.map V.str)) →
          tDrop (tBM K "list" rAppend (tVar 5) (tCons (tVar 8) tNil)) { nx := fun σ' H' => ∃ (nm : List Str) (v6 v7 v8 : Option V), σ' = [some (.ref a), some (.str letters), some (.int m), some (.str bs), some (.int (at_ : Int)), some (.ref p), v6, v7, v8] ∧ Ex H H' ∧ nm.length = i + 1 ∧ i + 1 ≤ 14 ∧
              (∀ (k : Nat) (z : Str), nm[k]? = some z → WordAt (m / 1664) at_ k z) ∧ H' p = some (.lst (nm.map V.str)), rt := Q } [some (.ref a), some (.str letters), some (.int m), some (.str bs), some (.int (at_ : Int)), some (.ref p), some (.int (i : Int)), v7', some (.str z)] H3 := by
        intro z v7' h1 h2' h3 h4 H3 ex3 hp3
        refine ⟨_, rfl, .inl ⟨rfl, _, SqL.of hp3⟩, _, rfl, p, _, _, rfl, rfl, hp3, small (by rw [List.length_map]; omega), nm ++ [z], _, _, _, rfl, fun b o e => ?_, by rw [List.length_append, hl]; rfl, by omega, fun k y hk' => ?_, ?_⟩
        · rw [upd_ne (ne_of_none e hp)]
          exact ex3 b o e
        · rcases Nat.lt_or_ge k nm.length with c | c
          · rw [List.getElem?_append_left c] at hk'
            exact hw k y hk'
          · rw [List.getElem?_append_right c] at hk'
            have ek : k = nm.length := by
              have := (List.getElem?_eq_some_iff.mp hk').1
              simp only [List.length_cons, List.length_nil] at this
              omega
            rw [ek, Nat.sub_self] at hk'
            have ey : z = y := Option.some.inj hk'
            rw [← ey, ek, hl]
            exact ⟨(isName_iff z).mpr ⟨h2', h3, h1⟩, by rw [h4, hlc]⟩
        · rw [upd_same, List.map_append]
          rfl
      have cutLast : ∀ (z : Str) (v7' : Option V), (∀ c ∈ cs z, 97 ≤ c ∧ c ≤ 122) → 1 ≤ (cs z).length → (cs z).length ≤ 8 → (cs z)[at_]? = some lc → ∀ H3, Ex H H3 → H3 p = some (.lst (nm.map V.str)) →
          tSeq (tIfS (tTest (tOp rEq (tOp (rI (fun _ j => 0 < j) fun i j => .int (i % j)) (tVar 6) (tC (.int 5))) (tC (.int 4)))) (tAsg (tSl rSlS (tVar 8) tNoPart (tPart (tOp (rI0 fun i j => .int (i + j)) (tVar 4) (tC (.int 1))))) (gName 8)) tNext) (tDrop (tBM K "list" rAppend (tVar 5) (tCons (tVar 8) tNil)))
            { nx := fun σ' H' => ∃ (nm : List Str) (v6 v7 v8 : Option V), σ' = [some (.ref a), some (.str letters), some (.int m), some (.str bs), some (.int (at_ : Int)), some (.ref p), v6, v7, v8] ∧ Ex H H' ∧ nm.length = i + 1 ∧ i + 1 ≤ 14 ∧
              (∀ (k : Nat) (z : Str), nm[k]? = some z → WordAt (m / 1664) at_ k z) ∧ H' p = some (.lst (nm.map V.str)), rt := Q } [some (.ref a), some (.str letters), some (.int m), some (.str bs), some (.int (at_ : Int)), some (.ref p), some (.int (i : Int)), v7', some (.str z)] H3 := by
        intro z v7' h1 h2' h3 h4 H3 ex3 hp3
        refine ⟨_, rfl, _, _, rfl, rfl, (by show (0 : Int) < _; decide), rfl, _, rfl, ?_⟩
        refine ite2 (fun _ => ?_) (fun _ => fin z v7' h1 h2' h3 h4 H3 ex3 hp3)
        refine ⟨_, rfl, _, rfl, _, _, rfl, rfl, _, rfl, ?_⟩
        dsimp only
        rw [e1]
        refine ⟨z, rfl, by rw [cs_len, sizeLine_eq]; omega, ?_⟩
        have e3 := cut_to z (at_ + 1)
        have hlt : at_ < (cs z).length := (List.getElem?_eq_some_iff.mp h4).1
        refine fin _ v7' (fun c hc => ?_) ?_ ?_ ?_ H3 ex3 hp3
        · rw [e3] at hc
          exact h1 c (List.mem_of_mem_take hc)
        · rw [e3, List.length_take]
          omega
        · rw [e3, List.length_take]
          omega
        · rw [e3, List.getElem?_take, if_pos (Nat.lt_succ_self _)]
          exact h4
      refine ⟨_, rfl, _, _, rfl, rfl, (by show (0 : Int) < _; decide), rfl, _, rfl, ?_⟩
      refine ite2 (fun _ => ?_) (fun _ => cutLast wd _ low (by omega) (by omega) atw H2 ex h2)
      have hww : wd.length = L := by rw [cs_len]; exact hwdl
      refine ⟨_, rfl, _, rfl, _, _, rfl, rfl, (by rw [hww, sizeLine_eq]; omega), _, rfl, wd, rfl, (by rw [hww, sizeLine_eq]; omega), _, _, rfl, rfl, _, rfl, _, _, rfl, rfl, (by show (0 : Int) < _; decide), _, _, rfl, rfl, _, _, rfl, _, rfl, ?_⟩
      dsimp only
      rw [hww]
      obtain ⟨N, hN, hN1, hN2⟩ : ∃ N : Nat, (if (L : Int) + 1 + (i : Int) % 2 < 8 then (L : Int) + 1 + (i : Int) % 2 else 8) = (N : Int) ∧ L ≤ N ∧ N ≤ 8 := by
        have := Int.emod_nonneg (i : Int) (show (2 : Int) ≠ 0 by decide)
        split
        · exact ⟨((L : Int) + 1 + (i : Int) % 2).toNat, by omega, by omega, by omega⟩
        · exact ⟨8, rfl, hL8, Nat.le_refl _⟩
      rw [hN]
      refine ⟨_, rfl, by rw [cs_len, cs_app, List.length_append, hwdl, sizeLine_eq]; omega, ?_⟩
      have e4 := cut_to (wd ++ wd) N
      rw [cs_app] at e4
      refine cutLast _ _ (fun c hc => ?_) ?_ ?_ ?_ H2 ex h2
      · rw [e4] at hc
        have := List.mem_of_mem_take hc
        rw [List.mem_append] at this
        exact this.elim (low c) (low c)
      · rw [e4, List.length_take, List.length_append]
        omega
      · rw [e4, List.length_take]
        omega
      · rw [e4, List.getElem?_take, if_pos (by omega), List.getElem?_append_left (by omega)]
        exact atw
    · rintro σ H2 ⟨nm, v6, v7, v8, rfl, ex, hl, hi', hw, h2⟩
      exact ⟨_, rfl, q nm p H2 hl (words_ok (by omega) hw) hp ex h2⟩
end
/-! ### one coming -/
section
variable {P : Program} {w : World} {K : PySem.W.Frag} {mg : Str → Option Value} {base : Heap}
theorem none_ex {H H' : Hp} {p : Addr} (e : Ex H H') (h : H' p = none) : H p = none := by
  cases c : H p with
  | none => rfl
  | some o => rw [e p o c] at h; cases h
theorem sql_ex {H H' : Hp} {a : Addr} {xs : List V} (h : SqL K H a xs) (e : Ex H H') : SqL K H' a xs := by
  rcases h with (h | h) | h
  · exact .inl (.inl (e _ _ h))
  · obtain ⟨o, h⟩ := h
    exact .inl (.inr ⟨o, e _ _ h⟩)
  · exact .inr h
def spComing (K : PySem.W.Frag) : Sp := fun vs H Q _ => ∃ (a : Addr) (nm : List Str) (c k : Int), vs = [.ref a, .int c, .int k] ∧ SqL K H a (nm.map V.str) ∧ nm.length = 14 ∧
  ∀ (n : Str) (x : Int) (p : Addr) (H' : Hp), n ∈ nm → isWt x = true → Ex H H' → H p = none → H' p = some (.tup [.str n, .int x]) → Q (.ref p) H'
theorem ok_coming {f : Addr} {fd : FuncData} (F : Fun K "_law_coming" "_law_coming" sLComing f fd) (GM : Gf P w K mg base CX0 1 "_law_mixed" pLMixed spMixed) : FnOk P w K mg base CX0 2 f fd pLComing (spComing K) := by
  obtain ⟨fM, fdM, gM, bM, mM, kM⟩ := GM.ex
  refine F.ok cLComing (fun vs H Q E h => ?_) (fun cdv A outer s H vs Q E hr h => ?_)
  · obtain ⟨a, nm, c, k, rfl, _⟩ := h
    rfl
  · obtain ⟨a, nm, c, k, rfl, hS, hl, q⟩ := h
    refine ⟨_, pss_cons (ps_set (i := 3) cLComing.nd rfl (Or.inl rfl) (pe_call gM hr rfl mM kM bM .nil pass0 (pa_cons (pv 1) (pa_cons (pv 2) pa_nil))))
      (pss_cons (ps_set (i := 4) cLComing.nd rfl (Or.inl rfl) (pe_ix ix_list (pv 0) (pe_op op_mod (pe_op op_mod (pv 3) (pe_ix ix_list (pe_lst (pa_cons pe_int (pa_cons pe_int (pa_cons pe_int pa_nil)))) (pe_op op_mod (pe_op op_fdiv (pv 3) pe_int) pe_int) (fun _ _ => rfl))) pe_int) (fun _ _ => rfl)))
      (pss_cons (ps_set (i := 5) cLComing.nd rfl (Or.inl rfl) (pe_op op_mod (pe_op op_fdiv (pv 3) pe_int) pe_int))
      (pss_cons (ps_set (i := 6) cLComing.nd rfl (Or.inl rfl) (pe_op op_add pe_int (pe_op op_mod (pe_op op_fdiv (pv 3) pe_int) (pe_ix ix_list (pe_lst (pa_cons pe_int (pa_cons pe_int (pa_cons pe_int pa_nil)))) (pe_op op_mod (pv 5) pe_int) (fun _ _ => rfl)))))
      (pss_cons (ps_if (pt_cmpR op_gt (pv 5) pe_int (nomark _))
        (pss_one (ps_set (i := 6) cLComing.nd rfl (Or.inl rfl) (pe_op op_add pe_int (pe_op op_mod (pe_op op_add (pe_op op_pow (pv 3) pe_int) (pe_op op_mod (pv 1) (pe_op op_pow pe_int pe_int))) (pe_op op_pow pe_int pe_int)))))
        pss_nil)
      (pss_one (ps_ret (pe_tup (pa_cons (pv 4) (pa_cons (pv 6) pa_nil))))))))), ?_⟩
    have sz3 : 3 ≤ sizeLine := by rw [sizeLine_eq]; decide
    -- one of three whole numbers
    have three : ∀ (x y z j : Int) (Q : VK) (H2 : Hp) (l : Addr), 0 ≤ j → j < 3 → (Q (.int x) (upd H2 l (.lst [.int x, .int y, .int z])) ∧ Q (.int y) (upd H2 l (.lst [.int x, .int y, .int z])) ∧ Q (.int z) (upd H2 l (.lst [.int x, .int y, .int z]))) →
        rIxL K (V.ref l) (V.int j) (upd H2 l (.lst [.int x, .int y, .int z])) Q := by
      intro x y z j Q H2 l j0 j3 ⟨q0, q1, q2⟩
      have h := (show j = 0 ∨ j = 1 ∨ j = 2 by omega)
      rcases h with e | e | e
      · exact ⟨l, _, j, _, rfl, rfl, SqL.of upd_same, by rw [e]; exact atI_nat (j := 0) rfl, q0⟩
      · exact ⟨l, _, j, _, rfl, rfl, SqL.of upd_same, by rw [e]; exact atI_nat (j := 1) rfl, q1⟩
      · exact ⟨l, _, j, _, rfl, rfl, SqL.of upd_same, by rw [e]; exact atI_nat (j := 2) rfl, q2⟩
    refine ⟨_, rfl, _, rfl, c, k, rfl, fun m m0 m1 => ?_⟩
    have tail : ∀ (b : Int) (nx : Str) (σ5 : Int) (H2 : Hp), nx ∈ nm → Ex H H2 → 0 < b → b ≤ 60 → ∀ mm : Int, 0 ≤ mm → mm < b → 
        tSeq (tIfS (tTest (tOp (rI0 fun i j => .bl (decide (j < i))) (tVar 5) (tC (.int 9)))) (tAsg (tOp (rI0 fun i j => .int (i + j)) (tC (.int 1)) (tOp (rI (fun _ j => 0 < j) fun i j => .int (i % j)) (tOp (rI0 fun i j => .int (i + j)) (tOp (rI CPow fun i j => .int (i ^ j.toNat)) (tVar 3) (tC (.int 7))) (tOp (rI (fun _ j => 0 < j) fun i j => .int (i % j)) (tVar 1) (tOp (rI CPow fun i j => .int (i ^ j.toNat)) (tC (.int 10)) (tC (.int 59))))) (tOp (rI CPow fun i j => .int (i ^ j.toNat)) (tC (.int 10)) (tC (.int 60))))) (gName 6)) tNext)
          (tRet (tTup (tCons (tVar 4) (tCons (tVar 6) tNil)))) { nx := fun x H' => Q V.non H', rt := Q } [some (.ref a), some (.int c), some (.int k), some (.int m), some (.str nx), some (.int σ5), some (.int (1 + mm))] H2 := by
      intro b nx s5 H2 hn ex b0 b60 mm mm0 mm1
      have wt1 : isWt (1 + mm) = true := decide_eq_true (by unfold great; omega)
      have last : ∀ y : Int, isWt y = true → tRet (tTup (tCons (tVar 4) (tCons (tVar 6) tNil))) { nx := fun x H' => Q V.non H', rt := Q } [some (.ref a), some (.int c), some (.int k), some (.int m), some (.str nx), some (.int s5), some (.int y)] H2 := by
        intro y hy
        exact ⟨_, rfl, _, rfl, by rw [sizeLine_eq]; show 2 ≤ 16777216; decide, fun p hp => q nx y p _ hn hy (ex.trans (Evl.Ex.new hp)) (none_ex ex hp) upd_same⟩
      refine ⟨_, rfl, _, _, rfl, rfl, _, rfl, ?_⟩
      refine ite2 (fun _ => ?_) (fun _ => last _ wt1)
      have p59 : (0 : Int) < (10 : Int) ^ (59 : Int).toNat := by decide +kernel
      have p60 : (10 : Int) ^ (60 : Int).toNat = great := by decide +kernel
      refine ⟨_, rfl, _, _, rfl, rfl, ⟨by decide, by decide, ?_⟩, _, rfl, _, _, rfl, rfl, ⟨by decide, by decide, by decide⟩, _, _, rfl, rfl, p59, _, _, rfl, rfl, _, _, rfl, rfl, ⟨by decide, by decide, by decide⟩, _, _, rfl, rfl, (by dsimp only; rw [p60]; decide), _, _, rfl, rfl, ?_⟩
      · show m.natAbs < 2 ^ 64
        omega
      · dsimp only
        rw [p60]
        refine last _ (decide_eq_true ?_)
        have h1 := Int.emod_nonneg (m ^ (7 : Int).toNat + c % (10 : Int) ^ (59 : Int).toNat) (show great ≠ 0 by decide)
        have h2 := Int.emod_lt_of_pos (m ^ (7 : Int).toNat + c % (10 : Int) ^ (59 : Int).toNat) (show 0 < great by decide)
        omega
    -- the weight
    have mid : ∀ (j : Int) (H2 : Hp), 0 ≤ j → j < 14 → Ex H H2 → ∃ (a' : Addr) (xs : List V) (i : Int) (v : V), (V.ref a = .ref a') ∧ (V.int j = .int i) ∧ SqL K H2 a' xs ∧ atI xs i = some v ∧
        tSeq (tAsg (tOp (rI (fun _ j => 0 < j) fun i j => .int (i % j)) (tOp (rI CDiv fun i j => .int (i / j)) (tVar 3) (tC (.int 42))) (tC (.int 12))) (gName 5)) (tSeq (tAsg (tOp (rI0 fun i j => .int (i + j)) (tC (.int 1)) (tOp (rI (fun _ j => 0 < j) fun i j => .int (i % j)) (tOp (rI CDiv fun i j => .int (i / j)) (tVar 3) (tC (.int 600))) (tOp (rIxL K) (tLst (tCons (tC (.int 1)) (tCons (tC (.int 9)) (tCons (tC (.int 60)) tNil)))) (tOp (rI (fun _ j => 0 < j) fun i j => .int (i % j)) (tVar 5) (tC (.int 3)))))) (gName 6))
         (tSeq (tIfS (tTest (tOp (rI0 fun i j => .bl (decide (j < i))) (tVar 5) (tC (.int 9)))) (tAsg (tOp (rI0 fun i j => .int (i + j)) (tC (.int 1)) (tOp (rI (fun _ j => 0 < j) fun i j => .int (i % j)) (tOp (rI0 fun i j => .int (i + j)) (tOp (rI CPow fun i j => .int (i ^ j.toNat)) (tVar 3) (tC (.int 7))) (tOp (rI (fun _ j => 0 < j) fun i j => .int (i % j)) (tVar 1) (tOp (rI CPow fun i j => .int (i ^ j.toNat)) (tC (.int 10)) (tC (.int 59))))) (tOp (rI CPow fun i j => .int (i ^ j.toNat)) (tC (.int 10)) (tC (.int 60))))) (gName 6)) tNext)
          (tRet (tTup (tCons (tVar 4) (tCons (tVar 6) tNil)))))) { nx := fun x H' => Q V.non H', rt := Q } [some (.ref a), some (.int c), some (.int k), some (.int m), some v, none, none] H2 := by
      intro j H2 j0 j1 ex
      obtain ⟨jn, rfl⟩ : ∃ n : Nat, j = (n : Int) := ⟨j.toNat, by omega⟩
      have hjn : jn < nm.length := by omega
      refine ⟨a, _, _, .str nm[jn], rfl, rfl, sql_ex hS ex, atI_nat (by rw [List.getElem?_map, List.getElem?_eq_getElem hjn]; rfl), ?_⟩
      have hin : nm[jn] ∈ nm := List.getElem_mem hjn
      generalize nm[jn] = nx at hin ⊢
      refine ⟨_, rfl, _, _, rfl, rfl, ⟨by decide, by decide⟩, _, _, rfl, rfl, (by show (0 : Int) < _; decide), _, rfl, ?_⟩
      dsimp only
      have s0 := Int.emod_nonneg (m / 42) (show (12 : Int) ≠ 0 by decide)
      refine ⟨_, _, rfl, rfl, ⟨by decide, by decide⟩, sz3, ?_⟩
      intro l hl
      refine ⟨_, rfl, _, _, rfl, rfl, (by show (0 : Int) < _; decide), ?_⟩
      refine three _ _ _ _ _ _ l (Int.emod_nonneg _ (by decide)) (Int.emod_lt_of_pos _ (by decide)) ?_
      have ex2 := ex.trans (Evl.Ex.new (o := .lst [.int 1, .int 9, .int 60]) hl)
      have part : ∀ b : Int, 0 < b → b ≤ 60 → 0 ≤ m / 600 % b ∧ m / 600 % b < b := fun b b0 _ => ⟨Int.emod_nonneg _ (by omega), Int.emod_lt_of_pos _ b0⟩
      refine ⟨?_, ?_, ?_⟩
      · exact ⟨_, _, rfl, rfl, (by show (0 : Int) < _; decide), _, _, rfl, rfl, tail 1 nx _ _ hin ex2 (by decide) (by decide) _ (part 1 (by decide) (by decide)).1 (part 1 (by decide) (by decide)).2⟩
      · exact ⟨_, _, rfl, rfl, (by show (0 : Int) < _; decide), _, _, rfl, rfl, tail 9 nx _ _ hin ex2 (by decide) (by decide) _ (part 9 (by decide) (by decide)).1 (part 9 (by decide) (by decide)).2⟩
      · exact ⟨_, _, rfl, rfl, (by show (0 : Int) < _; decide), _, _, rfl, rfl, tail 60 nx _ _ hin ex2 (by decide) (by decide) _ (part 60 (by decide) (by decide)).1 (part 60 (by decide) (by decide)).2⟩
    refine ⟨_, rfl, _, rfl, sz3, ?_⟩
    intro l hl
    refine ⟨_, rfl, _, _, rfl, rfl, ⟨by decide, by decide⟩, _, _, rfl, rfl, (by show (0 : Int) < _; decide), ?_⟩
    refine three _ _ _ _ _ _ l (Int.emod_nonneg _ (by decide)) (Int.emod_lt_of_pos _ (by decide)) ?_
    have ex1 : Ex H (upd H l (.lst [.int 4, .int 14, .int 9])) := Evl.Ex.new hl
    refine ⟨?_, ?_, ?_⟩
    · exact ⟨_, _, rfl, rfl, (by show (0 : Int) < _; decide), _, _, rfl, rfl, (by show (0 : Int) < _; decide), mid _ _ (Int.emod_nonneg _ (by decide)) (Int.emod_lt_of_pos _ (by decide)) ex1⟩
    · exact ⟨_, _, rfl, rfl, (by show (0 : Int) < _; decide), _, _, rfl, rfl, (by show (0 : Int) < _; decide), mid _ _ (Int.emod_nonneg _ (by decide)) (Int.emod_lt_of_pos _ (by decide)) ex1⟩
    · exact ⟨_, _, rfl, rfl, (by show (0 : Int) < _; decide), _, _, rfl, rfl, (by show (0 : Int) < _; decide), mid _ _ (Int.emod_nonneg _ (by decide)) (Int.emod_lt_of_pos _ (by decide)) ex1⟩
end
/-! ### all that a law calls -/
structure LawG (P : Program) (w : World) (K : PySem.W.Frag) (mg : Str → Option Value) (base : Heap) (C CN CW CD : Addr) : Prop where
  T : DkT K mg C CN CW CD
  made : ∃ fI fdI, Mk K C fI ∧ FnOk P w K mg base (L2.CX P w) 3 fI fdI pDInit (spInit K C CD) ∧ Binds K fdI pDInit []
  come : Gm P w K mg base (L2.CX P w) C 3 "come" pDCome (spCome K C CN CW)
  shown : Gm P w K mg base CX0 C 1 "shown" pDShown (spShown C)
  lost : Gm P w K mg base CX0 C 1 "lost" pDLost (spNum C fun _ g _ => g)
  weight : Gm P w K mg base CX0 C 1 "weight" pDWeight (spNum C fun _ _ t => t)
  drawers : Gm P w K mg base CX0 C 1 "drawers" pDDrawers (spNum C fun r _ _ => r)
  mixed : Gf P w K mg base CX0 1 "_law_mixed" pLMixed spMixed
  names : Gf P w K mg base CX0 2 "_law_names" pLNames (spNames K)
  drawn : Gf P w K mg base CX0 2 "_law_drawers" pLDrawers (spDrawers K)
  coming : Gf P w K mg base CX0 2 "_law_coming" pLComing (spComing K)
/-- law's: a list of at most 63 ints is handed in, True comes out -/
def spLaw (K : PySem.W.Frag) : Sp := fun vs H Q _ => ∃ (a : Addr) (ns : List Int), vs = [.ref a] ∧ SqL K H a (ns.map V.int) ∧ ns.length ≤ 63 ∧ ∀ H', Q (.bl true) H'
/-! the same three readings under names that nothing looks into -/
@[irreducible] def wMeth := @L2.tMeth
@[irreducible] def wMake := @L2.tMake
@[irreducible] def wLc := @L2.tLc
theorem wMeth_eq : @wMeth = @L2.tMeth := by unfold wMeth; rfl
theorem wMake_eq : @wMake = @L2.tMake := by unfold wMake; rfl
theorem wLc_eq : @wLc = @L2.tLc := by unfold wLc; rfl
theorem ex_off {Hb H H' : Hp} {l : List Addr} (e : Ex Hb H) (o : Off l H H') (hl : ∀ b ∈ l, Hb b = none) : Ex Hb H' := fun b u hb => o b u (fun z => by rw [hl b z] at hb; cases hb) (e b u hb)
section
variable {K : PySem.W.Frag} {C CN CW CD : Addr} {σ : L2.St} {H : Hp} {Q : VK} {i j : Nat} {p d : Addr} {room gone total : Int} {c : CM}
/-! reading a method's call on a Desk that stands in a slot -/
theorem rd_shown (hσ : σ[i]? = some (some (.ref p))) (D : DeskAt C H p d room c gone total) (q : ∀ (H' : Hp) (r : Addr), H r = none → Ex H H' → H' r = some (.dK (kvc (sortC c))) → Q (.ref r) H') : wMeth C "shown" (spShown C) [] E0 (tVar i) tNil σ H Q := by
  rw [wMeth_eq]
  obtain ⟨dx, hp⟩ := D.ob
  exact ⟨_, hσ, p, dx, _, rfl, hp, dfl_no _ _ _ _ (by decide +kernel), p, d, room, c, gone, total, rfl, D, q⟩
theorem rd_num {m : Str} {g : Int → Int → Int → Int} (hm : (m == "room") = false ∧ (m == "counts") = false ∧ (m == "gone") = false ∧ (m == "total") = false) (hσ : σ[i]? = some (some (.ref p))) (D : DeskAt C H p d room c gone total) (q : Q (.int (g room gone total)) H) : wMeth C m (spNum C g) [] E0 (tVar i) tNil σ H Q := by
  rw [wMeth_eq]
  obtain ⟨dx, hp⟩ := D.ob
  exact ⟨_, hσ, p, dx, _, rfl, hp, dfl_no _ _ _ _ hm, p, d, room, c, gone, total, rfl, D.rd, q⟩
theorem rd_over {m : Str} {u : Int → Int} (hm : (m == "room") = false ∧ (m == "counts") = false ∧ (m == "gone") = false ∧ (m == "total") = false) (hσ : σ[i]? = some (some (.ref p))) (D : DeskAt C H p d room c gone total) (hn : ∀ n ∈ keysC c, isName n = true)
    (q : ∀ (H' : Hp) (r : Addr), H r = none → Ex H H' → H' r = some (.lst ((overS room c (u gone) total).map V.str)) → Q (.ref r) H') : wMeth C m (spOver C u) [] E0 (tVar i) tNil σ H Q := by
  rw [wMeth_eq]
  obtain ⟨dx, hp⟩ := D.ob
  exact ⟨_, hσ, p, dx, _, rfl, hp, dfl_no _ _ _ _ hm, p, d, room, c, gone, total, rfl, D, hn, q⟩
theorem rd_least {m : Str} {u : Int → Int} {n : Str} (hm : (m == "room") = false ∧ (m == "counts") = false ∧ (m == "gone") = false ∧ (m == "total") = false) (hσ : σ[i]? = some (some (.ref p))) (hj : σ[j]? = some (some (.str n))) (D : DeskAt C H p d room c gone total) (hn : isName n = true)
    (q : Q (.int (getD0 c n + u gone)) H) : wMeth C m (spLeast K C CN u) [] E0 (tVar i) (tCons (tVar j) tNil) σ H Q := by
  rw [wMeth_eq]
  obtain ⟨dx, hp⟩ := D.ob
  refine ⟨_, hσ, p, dx, _, rfl, hp, dfl_no _ _ _ _ hm, _, hj, p, d, room, c, gone, total, .str n, rfl, D.rd, thing_str n, fun z e => ?_, fun n' e _ => ?_, fun e => ?_⟩
  · cases e
    exact name_size hn
  · cases e
    exact q
  · rw [show isNameV (.str n) = true from hn] at e
    cases e
/-- a coming of a drawn name with a drawn weight -/
theorem rd_come {k : Nat} {n : Str} {wt : Int} (hσ : σ[i]? = some (some (.ref p))) (hj : σ[j]? = some (some (.str n))) (hk : σ[k]? = some (some (.int wt))) (D : DeskAt C H p d room c gone total) (hn : isName n = true) (hw : isWt wt = true)
    (q : ∀ (H' : Hp) (d' : Addr), (d' = d ∨ H d' = none) → Off [p, d] H H' → DeskAt C H' p d' room (come room c n wt).1 (gone + (come room c n wt).2) (total + wt) → Q .non H') : wMeth C "come" (spCome K C CN CW) [] E0 (tVar i) (tCons (tVar j) (tCons (tVar k) tNil)) σ H Q := by
  rw [wMeth_eq]
  obtain ⟨dx, hp⟩ := D.ob
  refine ⟨_, hσ, p, dx, _, rfl, hp, dfl_no _ _ _ _ (by decide +kernel), _, hj, _, hk, p, d, room, c, gone, total, .str n, .int wt, rfl, D, thing_str n, thing_int wt, fun z e => ?_, fun n' w' e1 e2 _ _ H' d' h1 h2 h3 => ?_, fun e => ?_, fun _ e => ?_⟩
  · cases e
    exact name_size hn
  · cases e1
    cases e2
    exact q H' d' h1 h2 h3
  · rw [show isNameV (.str n) = true from hn] at e
    cases e
  · rw [show isWtV (.int wt) = true from hw] at e
    cases e
/-- a new Desk -/
theorem rd_new {t : TA} {r : Int} (ht : ∀ Q : List V → Hp → Prop, Q [.int r] H → t σ H Q) (h1 : 1 ≤ r) (h2 : r ≤ 50)
    (q : ∀ (p d : Addr) (H' : Hp), H p = none → H d = none → p ≠ d → Ex H H' → DeskAt C H' p d r [] 0 0 → Q (.ref p) H') : wMake C (spInit K C CD) [] E0 t σ H Q := by
  rw [wMake_eq]
  refine ht _ fun p dx hp hdx hne => ⟨p, .int r, dx, rfl, upd_same, thing_int r, fun r' e hr d H' hd off D => ?_, fun e => ?_⟩
  · cases e
    have nd : d ≠ p := fun z => by rw [z, upd_same] at hd; cases hd
    have nx : d ≠ dx := fun z => by rw [z, upd_ne hne, upd_same] at hd; cases hd
    refine ⟨rfl, q p d H' hp ?_ nd.symm (fun b o e => off b o (fun z => ?_) ?_) D⟩
    · rw [upd_ne nd, upd_ne nx] at hd
      exact hd
    · rw [List.mem_singleton.mp z, hp] at e
      cases e
    · rw [upd_ne (ne_of_none e hp), upd_ne (ne_of_none e hdx)]
      exact e
  · rw [show isRoomV (.int r) = true from decide_eq_true ⟨h1, h2⟩] at e
    cases e
end
theorem come_keys {room w : Int} {c : CM} {n m : Str} (h : m ∈ keysC (come room c n w).1) : m ∈ keysC c ∨ m = n := by
  have put : ∀ (c' : CM) (v : Int), m ∈ keysC (putC c' n v) → m ∈ keysC c' ∨ m = n := by
    intro c' v h
    rw [keys_put] at h
    split at h
    · exact .inl h
    · rcases List.mem_append.mp h with h | h
      · exact .inl h
      · exact .inr (List.mem_singleton.mp h)
  unfold come at h
  split at h
  · dsimp only at h
    split at h
    · rcases put _ _ h with h | h
      · exact .inl ((lowered_keys c _).subset h)
      · exact .inr h
    · exact .inl ((lowered_keys c _).subset h)
  · exact put _ _ h
theorem nodup_sub : ∀ {l m : List Str}, l.Nodup → (∀ x ∈ l, x ∈ m) → l.length ≤ m.length
  | [], _, _, _ => Nat.zero_le _
  | a :: l, m, nd, h => by
    obtain ⟨n1, n2⟩ := List.nodup_cons.mp nd
    have ha := h a (List.mem_cons_self ..)
    have := nodup_sub (m := m.erase a) n2 fun x hx => (List.mem_erase_of_ne (fun z : x = a => n1 (z ▸ hx))).mpr (h x (List.mem_cons_of_mem _ hx))
    rw [List.length_erase_of_mem ha] at this
    have hm : 0 < m.length := List.length_pos_of_mem ha
    rw [List.length_cons]
    omega
/-! ### reading statement by statement: what a test or a value comes to, for whatever is wanted behind -/
theorem sq_if {c : TT} {t rest : TS} {D : Ends} {σ : L2.St} {H : Hp} (P : Hp → Prop) (h : ∀ Q : Bool → Hp → Prop, (∀ H', P H' → Q false H') → c σ H Q) (k : ∀ H', P H' → rest D σ H') : tSeq (tIfS c t tNext) rest D σ H := h _ fun H' p => iteF (k H' p)
theorem sq_ifT {c : TT} {t rest : TS} {D : Ends} {σ : L2.St} {H : Hp} (P : Hp → Prop) (h : ∀ Q : Bool → Hp → Prop, (∀ H', P H' → Q true H') → c σ H Q) (k : ∀ H', P H' → t { D with nx := rest D } σ H') : tSeq (tIfS c t tNext) rest D σ H := h _ fun H' p => iteT (k H' p)
theorem sq_set {te : TE} {i : Nat} {rest : TS} {D : Ends} {σ : L2.St} {H : Hp} (P : V → Hp → Prop) (h : ∀ Q : VK, (∀ v H', P v H' → Q v H') → te σ H Q) (k : ∀ v H', P v H' → rest D (σ.set i (some v)) H') : tSeq (tAsg te (gName i)) rest D σ H := h _ fun v H' p => k v H' p
theorem sq_any {st rest : TS} {D : Ends} {σ : L2.St} {H : Hp} (P : L2.St → Hp → Prop) (h : ∀ D' : Ends, (∀ σ' H', P σ' H' → D'.nx σ' H') → st D' σ H) (k : ∀ σ' H', P σ' H' → rest D σ' H') : tSeq st rest D σ H := h { D with nx := rest D } k
section
variable {K : PySem.W.Frag} {σ : L2.St} {H : Hp} {Q : VK}
/-- sorted([k for k in d if ..]): the names of a table, those that pass -/
theorem keys_reads {tt : TT} {d : Addr} {c : CM} {i v : Nat} (f : Str → Bool) (hi : ∀ σ' : L2.St, σ' = σ → σ'[i]? = some (some (.ref d))) (hd : H d = some (.dK (kvc c))) (hl : c.length ≤ 63) (hw : ∀ n : Str, wipe ((wipe σ [v]).set v (some (.str n))) [v] = wipe σ [v]) (hv : ∀ n : Str, ((wipe σ [v]).set v (some (.str n)))[v]? = some (some (.str n)))
    (hc : ∀ (n : Str) (o : Obj) (H' : Hp) (Qb : Bool → Hp → Prop), n ∈ keysC c → H' d = some (.frz o (.dK (kvc c))) → Qb (f n) H' → tt ((wipe σ [v]).set v (some (.str n))) H' Qb)
    (q : ∀ (H' : Hp) (r : Addr), H r = none → Ex H H' → H' r = some (.lst ((sortS ((keysC c).filter f)).map V.str)) → Q (.ref r) H') :
    tCB (rSortedS K) (tCons (tLockE (wLc (iKeys (tVar i)) (gName v) tt (tVar v) [v])) tNil) σ H Q := by
  rw [wLc_eq]
  refine ⟨d, .dK (kvc c), hd, trivial, fun od => ?_⟩
  refine ⟨_, hi _ rfl, d, od, rfl, .inl ⟨kvc c, upd_same, fun L hL => ?_⟩⟩
  have dL : d ≠ L := fun z => by rw [← z, upd_same] at hL; cases hL
  have hL0 : H L = none := by
    rw [upd_ne dL.symm] at hL
    exact hL
  refine DK.lc_it (n := c.length) (fun i H2 => H2 d = some (.frz od (.dK (kvc c))) ∧ (∀ b o, b ≠ d → H b = some o → H2 b = some o) ∧ H2 L = some (.lst ((((keysC c).take i).filter f).map V.str)))
    ⟨by rw [upd_ne dL]; exact upd_same, fun b o hb e => by rw [upd_ne (ne_of_none e hL0), upd_ne hb]; exact e, upd_same⟩ ?_ ?_ ?_ ?_
  · rintro i H2 hi ⟨h1, h2, h3⟩
    exact ⟨h1, by rw [len_kvc]; exact hi⟩
  · rintro H2 ⟨h1, h2, h3⟩
    exact ⟨h1, by rw [len_kvc]; exact Nat.le_refl _⟩
  · rintro i H2 hi ⟨h1, h2, h3⟩ x H3 ⟨rfl, k, y, hk, rfl⟩
    have ei : c[i]? = some c[i] := List.getElem?_eq_getElem hi
    have e0 : (kvc c)[i]? = some (Sum.inr c[i].1, V.int c[i].2) := by
      unfold kvc
      rw [List.getElem?_map, ei]
      rfl
    rw [e0] at hk
    cases hk
    have ek : (keysC c)[i]? = some c[i].1 := by
      unfold keysC
      rw [List.getElem?_map, ei]
      rfl
    have hil : i < (keysC c).length := (List.getElem?_eq_some_iff.mp ek).1
    have tk : (keysC c).take (i + 1) = (keysC c).take i ++ [c[i].1] := by
      rw [List.take_succ_eq_append_getElem hil]
      rw [(List.getElem?_eq_some_iff.mp ek).2]
    refine ⟨hw _, hc _ od H3 _ (List.mem_of_getElem? ek) h1 ?_⟩
    refine ite2 (fun h => ?_) (fun h => ?_)
    · refine ⟨_, hv _, _, h3, small ?_, by rw [upd_ne dL]; exact h1, fun b o hb e => by rw [upd_ne (ne_of_none e hL0)]; exact h2 b o hb e, ?_⟩
      · rw [List.length_map]
        have a1 := List.length_filter_le f ((keysC c).take i)
        have a2 : ((keysC c).take i).length ≤ i := by rw [List.length_take]; omega
        omega
      · rw [upd_same, tk, List.filter_append, List.map_append, List.filter_cons_of_pos h]
        rfl
    · refine ⟨h1, h2, ?_⟩
      rw [h3, tk, List.filter_append, List.map_append, List.filter_cons_of_neg h]
      simp
  · rintro H2 ⟨h1, h2, h3⟩
    refine ⟨h1, L, (keysC c).filter f, rfl, SqL.of ?_, ?_, fun ys l pm so hl' => ?_⟩
    · rw [upd_ne dL.symm, h3, List.take_of_length_le (by unfold keysC; rw [List.length_map]; exact Nat.le_refl _)]
    · have a1 := List.length_filter_le f (keysC c)
      have a2 : (keysC c).length = c.length := by unfold keysC; rw [List.length_map]
      omega
    · have ex1 : Ex H (upd H2 d (.dK (kvc c))) := fun b o e => by
        by_cases hb : b = d
        · rw [hb, upd_same]
          rw [hb, hd] at e
          exact e
        · rw [upd_ne hb]
          exact h2 b o hb e
      refine q _ l (none_ex ex1 hl') (fun b o e => by rw [upd_ne (ne_of_none (ex1 b o e) hl')]; exact ex1 b o e) ?_
      rw [upd_same, sortS_eq pm (sortedS_pw so)]
/-- [x for x in l if ..] of texts of which none passes -/
theorem none_reads {te : TE} {tt : TT} {v : Nat} {xs : List Str} (hte : ∀ R : VK, (∀ (a : Addr) (H1 : Hp), Ex H H1 → H1 a = some (.lst (xs.map V.str)) → R (.ref a) H1) → te σ H R) (hw : ∀ n : Str, wipe ((wipe σ [v]).set v (some (.str n))) [v] = wipe σ [v])
    (hc : ∀ (n : Str) (H' : Hp) (Qb : Bool → Hp → Prop), n ∈ xs → Ex H H' → (∀ H'' : Hp, Ex H' H'' → Qb false H'') → tt ((wipe σ [v]).set v (some (.str n))) H' Qb)
    (q : ∀ (H' : Hp) (r : Addr), Ex H H' → H' r = some (.lst []) → Q (.ref r) H') :
    wLc (iList K te) (gName v) tt (tVar v) [v] σ H Q := by
  rw [wLc_eq]
  refine hte _ fun a H1 ex1 e1 => ?_
  refine ⟨a, rfl, ⟨_, SqL.of e1⟩, fun L hL => ?_⟩
  have aL := ne_of_none e1 hL
  refine lc_list (K := K) (a := a) (xs := xs.map V.str) (fun _ H2 => Ex H1 H2 ∧ H2 L = some (.lst [])) ⟨Evl.Ex.new hL, upd_same⟩ (fun i H2 _ h => SqL.of (h.1 _ _ e1)) ?_ ?_
  · rintro i x H2 hi ⟨h1, h2⟩
    obtain ⟨n, hn, rfl⟩ := List.mem_map.mp (List.mem_of_getElem? hi)
    exact ⟨hw n, hc n H2 _ hn (ex1.trans h1) fun H3 h3 => iteF ⟨h1.trans h3, h3 _ _ h2⟩⟩
  · rintro H2 ⟨h1, h2⟩
    exact q H2 L (ex1.trans h1) h2
end
theorem sum_permI {l m : List Int} (p : l.Perm m) : l.sum = m.sum := by
  induction p with
  | nil => rfl
  | cons x _ ih => rw [List.sum_cons, List.sum_cons, ih]
  | swap x y l =>
    simp only [List.sum_cons]
    omega
  | trans _ _ h1 h2 => exact h1.trans h2
theorem sum_perm {c c' : CM} (p : c'.Perm c) : sumC c' = sumC c := sum_permI (p.map _)
theorem iteD {c A B : Prop} [Decidable c] (hc : c) (h : A) : if decide c = true then A else B := by
  rw [if_pos (decide_eq_true hc)]
  exact h
section
variable {K : PySem.W.Frag} {C CN CW CD : Addr} {σ : L2.St} {H : Hp} {Q : VK}
/-- a number of a Desk that an expression gives -/
theorem rd_numA {ta : TE} {m : Str} {g : Int → Int → Int → Int} {room gone total : Int} {c : CM} (hm : (m == "room") = false ∧ (m == "counts") = false ∧ (m == "gone") = false ∧ (m == "total") = false)
    (ht : ∀ R : VK, (∀ (p d : Addr) (H' : Hp), Ex H H' → DeskAt C H' p d room c gone total → R (.ref p) H') → ta σ H R) (q : ∀ H' : Hp, Ex H H' → Q (.int (g room gone total)) H') : wMeth C m (spNum C g) [] E0 ta tNil σ H Q := by
  rw [wMeth_eq]
  refine ht _ fun p d H' e D => ?_
  obtain ⟨dx, hp⟩ := D.ob
  exact ⟨p, dx, _, rfl, hp, dfl_no _ _ _ _ hm, p, d, room, c, gone, total, rfl, D.rd, q H' e⟩
/-- a coming, the arguments as they are written -/
theorem rd_comeA {i : Nat} {p d : Addr} {room gone total : Int} {c : CM} {ta : TA} {n : Str} {wt : Int} (hσ : σ[i]? = some (some (.ref p))) (ht : ∀ R : List V → Hp → Prop, R [.str n, .int wt] H → ta σ H R) (D : DeskAt C H p d room c gone total) (hn : isName n = true) (hw : isWt wt = true)
    (q : ∀ (H' : Hp) (d' : Addr), (d' = d ∨ H d' = none) → Off [p, d] H H' → DeskAt C H' p d' room (come room c n wt).1 (gone + (come room c n wt).2) (total + wt) → Q .non H') : wMeth C "come" (spCome K C CN CW) [] E0 (tVar i) ta σ H Q := by
  rw [wMeth_eq]
  obtain ⟨dx, hp⟩ := D.ob
  refine ⟨_, hσ, p, dx, _, rfl, hp, dfl_no _ _ _ _ (by decide +kernel), ht _ ⟨p, d, room, c, gone, total, .str n, .int wt, rfl, D, thing_str n, thing_int wt, fun z e => ?_, fun n' w' e1 e2 _ _ H' d' h1 h2 h3 => ?_, fun e => ?_, fun _ e => ?_⟩⟩
  · cases e
    exact name_size hn
  · cases e1
    cases e2
    exact q H' d' h1 h2 h3
  · rw [show isNameV (.str n) = true from hn] at e
    cases e
  · rw [show isWtV (.int wt) = true from hw] at e
    cases e
end
section
variable {K : PySem.W.Frag} {C CN CW CD : Addr} {σ : L2.St} {H : Hp} {Q : VK}
/-- a coming to a Desk that an expression gives -/
theorem rd_comeI {p d : Addr} {room gone total : Int} {c : CM} {to : TE} {ta : TA} {n : Str} {wt : Int} (ho : ∀ R : VK, R (.ref p) H → to σ H R) (ht : ∀ R : List V → Hp → Prop, R [.str n, .int wt] H → ta σ H R) (D : DeskAt C H p d room c gone total) (hn : isName n = true) (hw : isWt wt = true)
    (q : ∀ (H' : Hp) (d' : Addr), (d' = d ∨ H d' = none) → Off [p, d] H H' → DeskAt C H' p d' room (come room c n wt).1 (gone + (come room c n wt).2) (total + wt) → Q .non H') : wMeth C "come" (spCome K C CN CW) [] E0 to ta σ H Q := by
  have h := rd_comeA (K := K) (CN := CN) (CW := CW) (σ := [some (.ref p)]) (i := 0) (ta := fun _ H' R => H' = H ∧ R [.str n, .int wt] H') rfl (fun R hR => ⟨rfl, hR⟩) D hn hw q
  rw [wMeth_eq] at h ⊢
  obtain ⟨v, hv, a, dx, fs, e1, e2, e3, _, h2⟩ := h
  cases hv
  cases e1
  exact ho _ ⟨p, dx, fs, rfl, e2, e3, ht _ h2⟩
end
/-! ### lists of texts and of pairs, compared -/
theorem strOk_name {n : Str} (h : isName n = true) : PyData.canLay0 (.str n) = true := by
  have h2 := ((isName_iff n).mp h).2.2
  simp only [PyData.canLay0, PyData.strOk]
  rw [Array.all_eq_true']
  intro x hx
  have := h2 x (Array.mem_def.mp hx)
  exact decide_eq_true (by omega)
def strsD (l : List Str) : PyData := .list (l.map .str)
def prD2 (e : Str × Int) : PyData := .tuple [.str e.1, .int e.2]
def prsD (c : CM) : PyData := .list (c.map prD2)
section
variable {K : PySem.W.Frag} {H : Hp}
theorem dpAll_strs (l : List Str) : DpAll K H (l.map V.str) (l.map .str) := by
  induction l with
  | nil => exact .nil
  | cons n l ih => exact .cons (.str n) ih
theorem dp_strs {a : Addr} {l : List Str} (h : H a = some (.lst (l.map V.str))) : Dp K H (.ref a) (strsD l) := .lst (SqL.of h) (dpAll_strs l)
theorem shaped_strs {l : List Str} (h : ∀ n ∈ l, isName n = true) : SeqAt.shaped (strsD l) = true := by
  have h1 : PyData.canLayAll0 (l.map .str) = true := by
    induction l with
    | nil => simp [PyData.canLayAll0]
    | cons n l ih =>
      simp only [List.map_cons, PyData.canLayAll0, strOk_name (h n (List.mem_cons_self ..)), ih fun x hx => h x (List.mem_cons_of_mem _ hx), Bool.and_self]
  have h2 : PyData.depthAll (l.map .str) ≤ 0 := by
    clear h h1
    induction l with
    | nil => simp [PyData.depthAll]
    | cons n l ih =>
      simp only [List.map_cons, PyData.depthAll, PyData.depth]
      omega
  have h3 : PyData.depth (strsD l) ≤ 64 := by
    unfold strsD
    simp only [PyData.depth]
    omega
  show (PyData.canLay0 (strsD l) && decide (PyData.depth (strsD l) ≤ 64)) = true
  rw [Bool.and_eq_true]
  exact ⟨by unfold strsD; simp only [PyData.canLay0]; exact h1, decide_eq_true h3⟩
theorem dpAll_prs {ts : List Addr} {c : CM} (h : PrsAt H ts c) : DpAll K H (ts.map V.ref) (c.map prD2) := by
  unfold PrsAt at h
  induction h with
  | nil => exact .nil
  | cons r _ ih => exact .cons (.tup (SqT.of r) (.cons (.str _) (.cons (.int _) .nil))) ih
theorem dp_prs {a : Addr} {ts : List Addr} {c : CM} (h : H a = some (.lst (ts.map V.ref))) (hp : PrsAt H ts c) : Dp K H (.ref a) (prsD c) := .lst (SqL.of h) (dpAll_prs hp)
theorem shaped_prs {c : CM} (h : ∀ n ∈ keysC c, isName n = true) : SeqAt.shaped (prsD c) = true := by
  have h1 : PyData.canLayAll0 (c.map prD2) = true := by
    induction c with
    | nil => simp [PyData.canLayAll0]
    | cons e c ih =>
      have he := strOk_name (h e.1 (List.mem_cons_self ..))
      have ih := ih fun x hx => h x (List.mem_cons_of_mem _ hx)
      simp only [List.map_cons, PyData.canLayAll0, prD2, PyData.canLay0, ih] at he ⊢
      simp [he]
  have h2 : PyData.depthAll (c.map prD2) ≤ 1 := by
    clear h h1
    induction c with
    | nil => simp [PyData.depthAll]
    | cons e c ih =>
      simp only [List.map_cons, PyData.depthAll, PyData.depth, prD2]
      omega
  have h3 : PyData.depth (prsD c) ≤ 64 := by
    unfold prsD
    simp only [PyData.depth]
    omega
  show (PyData.canLay0 (prsD c) && decide (PyData.depth (prsD c) ≤ 64)) = true
  rw [Bool.and_eq_true]
  exact ⟨by unfold prsD; simp only [PyData.canLay0]; exact h1, decide_eq_true h3⟩
theorem eqv_shaped {d : PyData} (h : SeqAt.shaped d = true) : PyData.eqv d d = true := SeqAt.eqv_refl d (Bool.and_eq_true_iff.mp h).1
end
theorem prs_of {H : Hp} {ts : List Addr} {c : CM} (h : Paired (fun (t : Addr) (q : Key × V) => H t = some (.tup [kV q.1, q.2])) ts (kvc c)) : PrsAt H ts c := by
  unfold kvc at h
  unfold PrsAt
  induction c generalizing ts with
  | nil => cases h; exact .nil
  | cons e c ih =>
    cases h with
    | cons r t => exact .cons r (ih t)
theorem prs_ex {H H' : Hp} {ts : List Addr} {c : CM} (h : PrsAt H ts c) (e : Ex H H') : PrsAt H' ts c := by
  unfold PrsAt at h ⊢
  induction h with
  | nil => exact .nil
  | cons r _ ih => exact .cons (e _ _ r) ih
theorem pe_gref {X : Cx} {x : Str} {D : Addr} {pos : Pos} (hm : X.mg x = some (.ref D)) (hg : Gl X x) (hd : (x == ("__debug__" : Str)) = false := by decide) : PE X (.Name x pos) (tC (.ref D)) := pe_glob (v := .ref D) hg hm rfl hd
/-! ### which of the six errors it is, in words -/
def rIsU (K : PySem.W.Frag) : List V → Hp → VK → Prop := fun xs H Q => rIsi K xs H Q ∨ rIsX K xs H Q
theorem call_isU {X : Cx} : CallR X (.builtin "isinstance") (rIsU X.K) := by
  intro pins s σ H xs us Q I r h
  rcases h with h | h
  · exact call_isi pins s σ H xs us Q I r h
  · exact call_isX pins s σ H xs us Q I r h
/-- what isinstance says of x and a class, here and later -/
def Says (K : PySem.W.Frag) (H : Hp) (x : V) (D : Addr) (b : Bool) : Prop := ∀ (H' : Hp) (Q : VK), Ex H H' → Q (.bl b) H' → rIsU K [x, .ref D] H' Q
theorem says_none {K : PySem.W.Frag} {H : Hp} {D : Addr} (h : PySem.W.kitOne K (.type "NoneType") (.ref D) = some false) : Says K H .non D false := fun H' Q _ q => .inl ⟨.non, .ref D, .type "NoneType", .ref D, false, rfl, .own D, .base .non, h, q⟩
theorem says_held {K : PySem.W.Frag} {H : Hp} {a C D : Addr} {b : Bool} (h : H a = some (Held (.ref C) none a)) (E : ExcC K C) (k : PySem.W.kitOne K (.ref C) (.ref D) = some b) : Says K H (.ref a) D b := fun H' Q e q => .inr ⟨a, C, .ref D, .ref D, b, rfl, e _ _ h, E, .own D, k, q⟩
theorem kit_self {K : PySem.W.Frag} {D : Addr} : PySem.W.kitOne K (.ref D) (.ref D) = some true := by
  unfold PySem.W.kitOne
  rw [if_pos (beq_self_eq_true _)]
theorem kit_no {K : PySem.W.Frag} {t : Value} {C : Addr} (hne : (t == Value.ref C) = false) (hd : PySem.W.hasDictIn K C = true) (ht : PySem.W.typeIn K (.ref C) = some (.type "type")) (hs : PySem.W.subIn K t (.ref C) = some false) : PySem.W.kitOne K t (.ref C) = some false := by
  obtain ⟨cd, hc, _⟩ := PySem.W.any_some hd
  unfold PySem.W.kitOne PySem.W.kitCls
  rw [hne, if_neg Bool.false_ne_true]
  dsimp only
  rw [hc, ht, hs]
  rfl
abbrev words6 : List Str := ["name", "weight", "desk", "match", "piece", "text"]
def picked (ws : List Str) (bs : List Bool) : List Str := ((ws.zip bs).filter fun e => e.2).map (·.1)
section
variable {P : Program} {w : World} {K : PySem.W.Frag} {mg : Str → Option Value} {base : Heap}
def spWord (K : PySem.W.Frag) (CN CW CD CQ CP CT : Addr) : Sp := fun vs H Q _ => ∃ (x : V) (b1 b2 b3 b4 b5 b6 : Bool), vs = [x] ∧ Says K H x CN b1 ∧ Says K H x CW b2 ∧ Says K H x CD b3 ∧ Says K H x CQ b4 ∧ Says K H x CP b5 ∧ Says K H x CT b6 ∧
  ∀ H' : Hp, Ex H H' → Q (.str (PySem.Txt.join " " (picked words6 [b1, b2, b3, b4, b5, b6]))) H'
theorem picked_size (b1 b2 b3 b4 b5 b6 : Bool) : ((picked words6 [b1, b2, b3, b4, b5, b6]).map (·.length)).sum + (picked words6 [b1, b2, b3, b4, b5, b6]).length * (" " : Str).length ≤ 16777216 := by
  revert b1 b2 b3 b4 b5 b6
  decide +kernel
theorem ok_word {CN CW CD CQ CP CT : Addr} {f : Addr} {fd : FuncData} (F : Fun K "_law_word" "_law_word" sLWord f fd) (zI : mg "isinstance" = none) (zZ : mg "zip" = none)
    (gN : mg "NoName" = some (.ref CN)) (gW : mg "NoWeight" = some (.ref CW)) (gD : mg "NoDesk" = some (.ref CD)) (gM : mg "NoMatch" = some (.ref CQ)) (gP : mg "NoPiece" = some (.ref CP)) (gT : mg "NoText" = some (.ref CT)) : FnOk P w K mg base CX0 1 f fd pLWord (spWord K CN CW CD CQ CP CT) := by
  refine F.ok cLWord (fun vs H Q E h => ?_) (fun cdv A outer s H vs Q E hr h => ?_)
  · obtain ⟨x, b1, b2, b3, b4, b5, b6, rfl, _⟩ := h
    rfl
  · obtain ⟨x, b1, b2, b3, b4, b5, b6, rfl, s1, s2, s3, s4, s5, s6, q⟩ := h
    refine ⟨_, pss_cons (ps_set (i := 1) cLWord.nd rfl (Or.inl rfl) (pe_lst (pa_cons pe_str (pa_cons pe_str (pa_cons pe_str (pa_cons pe_str (pa_cons pe_str (pa_cons pe_str pa_nil))))))))
      (pss_cons (ps_set (i := 2) cLWord.nd rfl (Or.inl rfl) (pe_lst (pa_cons (pe_callB call_isU (by rfl) zI (by decide +kernel) (pa_cons (pv 0) (pa_cons (pe_gref gN rfl) pa_nil))) (pa_cons (pe_callB call_isU (by rfl) zI (by decide +kernel) (pa_cons (pv 0) (pa_cons (pe_gref gW rfl) pa_nil))) (pa_cons (pe_callB call_isU (by rfl) zI (by decide +kernel) (pa_cons (pv 0) (pa_cons (pe_gref gD rfl) pa_nil))) pa_nil)))))
      (pss_cons (ps_set (i := 3) cLWord.nd rfl (Or.inl rfl) (pe_lst (pa_cons (pe_callB call_isU (by rfl) zI (by decide +kernel) (pa_cons (pv 0) (pa_cons (pe_gref gM rfl) pa_nil))) (pa_cons (pe_callB call_isU (by rfl) zI (by decide +kernel) (pa_cons (pv 0) (pa_cons (pe_gref gP rfl) pa_nil))) (pa_cons (pe_callB call_isU (by rfl) zI (by decide +kernel) (pa_cons (pv 0) (pa_cons (pe_gref gT rfl) pa_nil))) pa_nil)))))
      (pss_one (ps_ret (pe_bm PySem.F.plainAttrs_str PySem.F.slot_str_join PySem.F.type_str_join mt_join pe_str (pa_cons (pe_lc (own := [("_law_word_here", 4), ("_law_flag", 5)]) (g := gTup K 2 (gCons (gName 4) (gCons (gName 5) gNil))) (tt := tB (tVar 5)) rfl cLWord.nd
        (pi_zip rfl zZ (pa_cons (pv 1) (pa_cons (pe_op op_cat (pv 2) (pv 3)) pa_nil))) (blkOk_by (own := [("_law_word_here", 4), ("_law_flag", 5)]) (N := nLWord) (sc := defScope sLWord) (by decide +kernel))
        (fun _ _ _ _ _ => pg_tup rfl (pgs_cons (pg_name (i := 4) cLWord.nd rfl (Or.inl rfl)) (pgs_cons (pg_name (i := 5) cLWord.nd rfl (Or.inl rfl)) pgs_nil))) (fun _ _ _ _ _ => pts_one (pt_val (pv 5))) (fun _ _ _ _ _ => pv 4)) pa_nil)))))), ?_⟩
    have six : 6 ≤ sizeLine := by rw [sizeLine_eq]; decide
    have three : 3 ≤ sizeLine := by rw [sizeLine_eq]; decide
    refine sq_any (fun σ' H' => ∃ l1 : Addr, σ' = [some x, some (.ref l1), none, none, none, none] ∧ Ex H H' ∧ H' l1 = some (.lst (words6.map V.str))) (fun D' hD => ⟨six, fun l hl => hD _ _ ⟨l, rfl, Evl.Ex.new hl, upd_same⟩⟩) ?_
    rintro σ' H1 ⟨l1, rfl, ex1, e1⟩
    refine sq_any (fun σ' H' => ∃ l2 : Addr, σ' = [some x, some (.ref l1), some (.ref l2), none, none, none] ∧ Ex H1 H' ∧ H' l2 = some (.lst ([b1, b2, b3].map V.bl)))
      (fun D' hD => ⟨_, rfl, s1 _ _ ex1 ⟨_, rfl, s2 _ _ ex1 ⟨_, rfl, s3 _ _ ex1 ⟨three, fun l hl => hD _ _ ⟨l, rfl, Evl.Ex.new hl, upd_same⟩⟩⟩⟩⟩) ?_
    rintro σ' H2 ⟨l2, rfl, ex2, e2⟩
    have ex12 := ex1.trans ex2
    refine sq_any (fun σ' H' => ∃ l3 : Addr, σ' = [some x, some (.ref l1), some (.ref l2), some (.ref l3), none, none] ∧ Ex H2 H' ∧ H' l3 = some (.lst ([b4, b5, b6].map V.bl)))
      (fun D' hD => ⟨_, rfl, s4 _ _ ex12 ⟨_, rfl, s5 _ _ ex12 ⟨_, rfl, s6 _ _ ex12 ⟨three, fun l hl => hD _ _ ⟨l, rfl, Evl.Ex.new hl, upd_same⟩⟩⟩⟩⟩) ?_
    rintro σ' H3 ⟨l3, rfl, ex3, e3⟩
    have e2' := ex3 _ _ e2
    have e1' := ex3 _ _ (ex2 _ _ e1)
    refine ⟨rfl, ?_⟩
    refine ⟨_, rfl, _, rfl, _, rfl, l2, l3, [b1, b2, b3].map V.bl, [b4, b5, b6].map V.bl, rfl, rfl, e2', e3, six, fun l4 hl4 => ?_⟩
    have ex4 : Ex H3 (upd H3 l4 (.lst ([b1, b2, b3].map V.bl ++ [b4, b5, b6].map V.bl))) := Evl.Ex.new hl4
    have e4 : (upd H3 l4 (.lst ([b1, b2, b3].map V.bl ++ [b4, b5, b6].map V.bl))) l4 = some (.lst ([b1, b2, b3, b4, b5, b6].map V.bl)) := upd_same
    generalize upd H3 l4 (.lst ([b1, b2, b3].map V.bl ++ [b4, b5, b6].map V.bl)) = H4 at ex4 e4 ⊢
    have e1'' := ex4 _ _ e1'
    refine ⟨l1, l4, words6.map V.str, [b1, b2, b3, b4, b5, b6].map V.bl, rfl, SqL.of e1'', SqL.of e4, fun L hL => ?_⟩
    refine DK.lc_it (n := 6) (fun i H' => Ex H4 H' ∧ H' L = some (.lst ((picked (words6.take i) ([b1, b2, b3, b4, b5, b6].take i)).map V.str))) ⟨Evl.Ex.new hL, upd_same⟩ ?_ ?_ ?_ ?_
    · rintro i H' hi ⟨h1, h2⟩
      have hw : i < words6.length := hi
      have hb : i < [b1, b2, b3, b4, b5, b6].length := hi
      exact ⟨_, _, .str words6[i], .bl [b1, b2, b3, b4, b5, b6][i], SqL.of (h1 _ _ e1''), SqL.of (h1 _ _ e4), by rw [List.getElem?_map, List.getElem?_eq_getElem hw]; rfl, by rw [List.getElem?_map, List.getElem?_eq_getElem hb]; rfl⟩
    · rintro H' ⟨h1, h2⟩
      exact ⟨_, _, SqL.of (h1 _ _ e1''), SqL.of (h1 _ _ e4), .inl (Nat.le_refl _)⟩
    · rintro i H' hi ⟨h1, h2⟩ y H5 ⟨T, u, v, rfl, nT, rfl, hu, hv⟩
      have hw : i < words6.length := hi
      have hb : i < [b1, b2, b3, b4, b5, b6].length := hi
      have hu := hu _ (SqL.of (h1 _ _ e1''))
      have hv := hv _ (SqL.of (h1 _ _ e4))
      rw [List.getElem?_map, List.getElem?_eq_getElem hw] at hu
      rw [List.getElem?_map, List.getElem?_eq_getElem hb] at hv
      obtain rfl := Option.some.inj hu
      obtain rfl := Option.some.inj hv
      have step : picked (words6.take (i + 1)) ([b1, b2, b3, b4, b5, b6].take (i + 1)) = picked (words6.take i) ([b1, b2, b3, b4, b5, b6].take i) ++ (if [b1, b2, b3, b4, b5, b6][i] = true then [words6[i]] else []) := by
        rw [List.take_succ_eq_append_getElem hw, List.take_succ_eq_append_getElem hb]
        unfold picked
        rw [List.zip_append (by rw [List.length_take, List.length_take]; omega), List.filter_append, List.map_append]
        congr 1
        cases [b1, b2, b3, b4, b5, b6][i] <;> rfl
      have nTL : L ≠ T := ne_of_none h2 nT
      refine ⟨T, _, rfl, SqT.of upd_same, rfl, _, _, rfl, _, _, rfl, rfl, rfl, _, rfl, _, rfl, ?_⟩
      refine ite2 (fun hh => ?_) (fun hh => ?_)
      · refine ⟨_, rfl, _, by rw [upd_ne nTL]; exact h2, small ?_, fun b o e => ?_, ?_⟩
        · rw [List.length_map]
          unfold picked
          rw [List.length_map]
          have h9 := List.length_filter_le (fun e : Str × Bool => e.2) ((words6.take i).zip ([b1, b2, b3, b4, b5, b6].take i))
          rw [List.length_zip, List.length_take] at h9
          omega
        · rw [upd_ne (ne_of_none e hL), upd_ne (ne_of_none (h1 _ _ e) nT)]
          exact h1 _ _ e
        · rw [upd_same, step, if_pos hh, List.map_append]
          rfl
      · refine ⟨fun b o e => by rw [upd_ne (ne_of_none (h1 _ _ e) nT)]; exact h1 _ _ e, ?_⟩
        rw [upd_ne nTL, h2, step, if_neg hh, List.append_nil]
    · rintro H' ⟨h1, h2⟩
      exact ⟨" ", L, picked words6 [b1, b2, b3, b4, b5, b6], rfl, rfl, .inl (SqL.of h2), picked_size b1 b2 b3 b4 b5 b6, q _ (((ex12.trans ex3).trans ex4).trans h1)⟩
end
/-! ### the kinds of error, as isinstance tells them -/
structure Kind (K : PySem.W.Frag) (CN CW CD CQ CP CT D : Addr) (b1 b2 b3 b4 b5 b6 : Bool) : Prop where
  e : ExcC K D
  k1 : PySem.W.kitOne K (.ref D) (.ref CN) = some b1
  k2 : PySem.W.kitOne K (.ref D) (.ref CW) = some b2
  k3 : PySem.W.kitOne K (.ref D) (.ref CD) = some b3
  k4 : PySem.W.kitOne K (.ref D) (.ref CQ) = some b4
  k5 : PySem.W.kitOne K (.ref D) (.ref CP) = some b5
  k6 : PySem.W.kitOne K (.ref D) (.ref CT) = some b6
/-- one of a list just laid -/
theorem pick_reads {K : PySem.W.Frag} {l : Addr} {xs : List V} {j : Int} {H : Hp} {Q : VK} (hl : H l = some (.lst xs)) (h0 : 0 ≤ j) (h1 : j < xs.length) (q : ∀ v ∈ xs, Q v H) : rIxL K (.ref l) (.int j) H Q := by
  obtain ⟨k, rfl⟩ : ∃ k : Nat, j = (k : Int) := ⟨j.toNat, by omega⟩
  have hk : k < xs.length := by omega
  exact ⟨l, xs, k, xs[k], rfl, rfl, SqL.of hl, atI_nat (List.getElem?_eq_getElem hk), q _ (List.getElem_mem hk)⟩
/-! ### what is refused, held on -/
theorem hold_slot {σ : L2.St} {i j n : Nat} {x y z : Option V} (hl : σ.length = n) (hj : j < n) (hij : i ≠ j) : (((σ.set i x).set j y).set i z)[j]? = some y := by
  rw [List.getElem?_set_ne hij, List.getElem?_set_self (by rw [List.length_set, hl]; exact hj)]
/-- an exception that the clause names -/
theorem hold_reads {K : PySem.W.Frag} {n i j : Nat} {CE D : Addr} {σ : L2.St} {H : Hp} {D' : Ends} (hm : PySem.W.exmOne K (.ref D) (.ref CE) = some true) (hj : j < n) (hij : i ≠ j) (q : ∀ (σ' : L2.St) (a : Addr), σ'[j]? = some (some (.ref a)) → H a = none → D'.nx σ' (upd H a (Held (.ref D) none a))) :
    wHold K n (.ref CE) i j (fun _ _ _ _ => False) D' (.ref D) none σ H := ⟨true, hm, fun _ a na hl => q _ a (hold_slot hl hj hij) na, fun z => nomatch z⟩
/-! ### a second pass -/
section
variable {P : Program} {w : World} {K : PySem.W.Frag} {mg : Str → Option Value} {base : Heap} {C CN CW CD : Addr}
/-- a list of pairs that are asked as comings -/
structure Cms (K : PySem.W.Frag) (H : Hp) (l : Addr) (ts : List Addr) (xs : List (V × V)) : Prop where
  sq : SqL K H l (ts.map V.ref)
  at_ : VsAt H ts xs
  th : ∀ e ∈ xs, ∀ H' : Hp, Thing K H' e.1 ∧ Thing K H' e.2
  sz : ∀ e ∈ xs, ∀ z, e.1 = V.str z → z.length ≤ sizeLine
theorem Cms.ex {H H' : Hp} {l : Addr} {ts : List Addr} {xs : List (V × V)} (h : Cms K H l ts xs) (e : Ex H H') : Cms K H' l ts xs := ⟨sql_ex h.sq e, vs_ex h.at_ e, h.th, h.sz⟩
/-- what a pass over comings makes: all of them right, or the first wrong one -/
def spPass (K : PySem.W.Frag) (H : Hp) (xs : List (V × V)) (CN CW : Addr) (ok : CM → Prop) (E : Value → Option Addr → Hp → Prop) : Prop :=
  (∀ pl : CM, xs = vpr pl → (∀ e ∈ pl, isName e.1 = true ∧ isWt e.2 = true) → ok pl) ∧
  ∀ (pl : CM) (x : V × V) (rest : List (V × V)), xs = vpr pl ++ x :: rest → (∀ e ∈ pl, isName e.1 = true ∧ isWt e.2 = true) → ∀ H' : Hp, Ex H H' →
    (isNameV x.1 = false → E (.ref CN) none H') ∧ (isNameV x.1 = true → isWtV x.2 = false → E (.ref CW) none H')
def spCounted (K : PySem.W.Frag) (C CN CW : Addr) : Sp := fun vs H Q E => ∃ (p d : Addr) (room : Int) (c : CM) (g t : Int) (l : Addr) (ts : List Addr) (xs : List (V × V)), vs = [.ref p, .ref l] ∧ DeskAt C H p d room c g t ∧ Cms K H l ts xs ∧
  spPass K H xs CN CW (fun pl => ∀ (H' : Hp) (q : Addr), H q = none → Ex H H' → H' q = some (.dK (kvc (tally (keysC (sortC c)) pl))) → Q (.ref q) H') E
theorem vpr_snoc (pl : CM) (n : Str) (v : Int) : vpr (pl ++ [(n, v)]) = vpr pl ++ [(.str n, .int v)] := by
  unfold vpr
  rw [List.map_append]
  rfl
theorem ok_counted {f : Addr} {fd : FuncData} (F : Fun K "counted" "counted" sCounted f fd) (T : DkT K mg C CN CW CD) (GN : Gf P w K mg base (L2.CX P w) 2 "need_coming" pNeedComing (spNeedComing K CN CW)) (GS : Gm P w K mg base CX0 C 1 "shown" pDShown (spShown C)) :
    FnOk P w K mg base (L2.CX P w) 3 f fd pCounted (spCounted K C CN CW) := by
  obtain ⟨fN, fdN, gN, bN, mN, kN⟩ := GN.ex
  obtain ⟨f2, fd2, gSh, bSh, mSh⟩ := GS.ex
  refine F.okX cCounted (fun vs H Q E h => ?_) (fun cdv A outer s H vs Q E hr h => ?_)
  · obtain ⟨p, d, room, c, g, t, l, ts, xs, rfl, _⟩ := h
    rfl
  · obtain ⟨p, d, room, c, g, t, l, ts, xs, rfl, D, M, q1, q2⟩ := h
    have hu := hu_of hr
    refine ⟨_, pss_cons (ps_set (i := 2) cCounted.nd rfl (Or.inl rfl) pe_dnewK)
      (pss_cons (ps_for (passes_of rfl) rfl (pi_keys (pe_frz (pe_meth0 (pv 0) T.cl mSh gSh (hr.mono (by decide)) bSh .nil pass0))) (pg_name (i := 3) cCounted.nd rfl (Or.inl rfl)) (pss_one (ps_dput hu (pv 2) (pv 3) pe_int rfl)))
      (pss_cons (ps_for (passes_of rfl) rfl (pi_list (pv 1)) (pg_tup rfl (pgs_cons (pg_name (i := 3) cCounted.nd rfl (Or.inl rfl)) (pgs_cons (pg_name (i := 4) cCounted.nd rfl (Or.inl rfl)) pgs_nil)))
        (pss_cons (ps_expr (pe_call gN (hr.mono (by decide)) rfl mN kN bN .nil (passes_call (takes_of rfl rfl rfl rfl) (fun _ _ _ _ z => z)) (pa_cons (pv 3) (pa_cons (pv 4) pa_nil))))
        (pss_one (ps_if (pt_cmp (pc_din hu (pv 3) (pv 2))) (pss_one (ps_daug hu (pv 2) (pv 3) (pv 4) in_add (fun _ _ _ => rfl))) pss_nil))))
      (pss_one (ps_ret (pv 2))))), ?_⟩
    rw [← wMeth_eq]
    have ksl : (keysC (sortC c)).length ≤ 50 := by
      have := D.len
      have := sortC_len c
      unfold keysC
      rw [List.length_map]
      omega
    have ksn : (keysC (sortC c)).Nodup := sortC_nodup D.nd
    refine sq_any (fun σ' H' => ∃ y : Addr, σ' = [some (.ref p), some (.ref l), some (.ref y), none, none] ∧ H y = none ∧ Ex H H' ∧ H' y = some (.dK [])) (fun D' hD y hy => hD _ _ ⟨y, rfl, hy, Evl.Ex.new hy, upd_same⟩) ?_
    rintro σ' H1 ⟨y, rfl, ny, ex1, ey⟩
    refine sq_any (fun σ' H' => ∃ v3 : Option V, σ' = [some (.ref p), some (.ref l), some (.ref y), v3, none] ∧ Ex H H' ∧ H' y = some (.dK (kvc (tally (keysC (sortC c)) [])))) (fun D' hD => ?_) ?_
    · refine rd_shown rfl (D.ex ex1) fun H2 x hx ex2 ex' => ?_
      have yx : y ≠ x := ne_of_none ey hx
      have ey2 := ex2 _ _ ey
      have x0 : H x = none := none_ex ex1 hx
      have len0 : (sortC c).length ≤ 50 := by
        rw [sortC_len]
        exact D.len
      have keq : ∀ i (hi : i < (sortC c).length), (keysC (sortC c)).take (i + 1) = (keysC (sortC c)).take i ++ [(sortC c)[i].1] := by
        intro i hi
        unfold keysC
        rw [List.take_succ_eq_append_getElem (by rw [List.length_map]; exact hi), List.getElem_map]
      refine ⟨x, _, rfl, ex', trivial, fun od => ⟨x, od, rfl, .inl ⟨kvc (sortC c), upd_same, ?_⟩⟩⟩
      refine for_it (n := (sortC c).length) (fun i σ H3 => ∃ v3 : Option V, σ = [some (.ref p), some (.ref l), some (.ref y), v3, none] ∧ Ex H H3 ∧ H3 x = some (.frz od (.dK (kvc (sortC c)))) ∧ H3 y = some (.dK (kvc (tally ((keysC (sortC c)).take i) []))))
        ⟨none, rfl, fun b o e => by rw [upd_ne (ne_of_none e x0)]; exact ex2 _ _ (ex1 _ _ e), upd_same, by rw [upd_ne yx]; exact ey2⟩ ?_ ?_ ?_ ?_
      · rintro i σ H3 hi ⟨v3, rfl, h1, h2, h3⟩
        exact ⟨h2, by rw [len_kvc]; exact hi⟩
      · rintro σ H3 ⟨v3, rfl, h1, h2, h3⟩
        exact ⟨h2, by rw [len_kvc]; exact Nat.le_refl _⟩
      · rintro i σ H3 hi ⟨v3, rfl, h1, h2, h3⟩ z H4 ⟨rfl, k, v, hk, rfl⟩
        have e0 : (kvc (sortC c))[i]? = some (Sum.inr (sortC c)[i].1, V.int (sortC c)[i].2) := by
          unfold kvc
          rw [List.getElem?_map, List.getElem?_eq_getElem hi]
          rfl
        rw [e0] at hk
        cases hk
        have hnew : (sortC c)[i].1 ∉ (keysC (sortC c)).take i := by
          have := keq i hi
          have nd2 : ((keysC (sortC c)).take (i + 1)).Nodup := (List.take_sublist _ _).nodup ksn
          rw [this, List.nodup_append] at nd2
          intro hm
          exact nd2.2.2 _ hm _ (List.mem_singleton.mpr rfl) rfl
        refine ⟨_, rfl, _, rfl, y, _, rfl, DPut.of h3 _ _ (small ?_), _, rfl, fun b o e => ?_, ?_, ?_⟩
        · rw [tally_len, List.length_take]
          omega
        · rw [upd_ne (ne_of_none e ny)]
          exact h1 _ _ e
        · rw [upd_ne yx.symm]
          exact h2
        · rw [upd_same, keq i hi, tally_new hnew]
      · rintro σ H3 ⟨v3, rfl, h1, h2, h3⟩
        rw [List.take_of_length_le (by unfold keysC; rw [List.length_map]; exact Nat.le_refl _)] at h3
        exact hD _ _ ⟨v3, rfl, h1, h3⟩
    rintro σ' H2 ⟨v3, rfl, ex2, ey2⟩
    have hxs : ts.length = xs.length := M.at_.length
    refine ⟨_, rfl, l, rfl, ⟨_, sql_ex M.sq ex2⟩, for_list (K := K) (a := l) (xs := ts.map V.ref) (fun i σ H3 => ∃ (v3 v4 : Option V) (pl : CM), σ = [some (.ref p), some (.ref l), some (.ref y), v3, v4] ∧ Ex H H3 ∧ xs.take i = vpr pl ∧ (∀ e ∈ pl, isName e.1 = true ∧ isWt e.2 = true) ∧ H3 y = some (.dK (kvc (tally (keysC (sortC c)) pl))))
      ⟨_, _, [], rfl, ex2, rfl, (fun _ h => nomatch h), ey2⟩ (fun _ _ _ _ ⟨_, _, _, _, h, _⟩ => sql_ex M.sq h) ?_ ?_⟩
    · rintro i x σ H3 hi ⟨v3, v4, pl, rfl, h1, h2, h3, h4⟩
      rw [List.getElem?_map] at hi
      obtain ⟨T1, hT, rfl⟩ : ∃ T1, ts[i]? = some T1 ∧ V.ref T1 = x := by
        cases e : ts[i]? with
        | none => rw [e] at hi; cases hi
        | some T1 => rw [e] at hi; exact ⟨T1, rfl, Option.some.inj hi⟩
      obtain ⟨e, he, hTe⟩ := LiI.paired_get M.at_ hT
      have hTe3 := h1 _ _ hTe
      have hm := List.mem_of_getElem? he
      have split : xs = vpr pl ++ e :: xs.drop (i + 1) := by
        rw [← h2]
        obtain ⟨hl, rfl⟩ := List.getElem?_eq_some_iff.mp he
        rw [List.getElem_cons_drop, List.take_append_drop]
      refine ⟨T1, _, rfl, SqT.of hTe3, rfl, _, _, rfl, _, _, rfl, rfl, ?_⟩
      have q2' := q2 pl e _ split h3 H3 h1
      refine ⟨_, rfl, _, rfl, e.1, e.2, rfl, (M.th e hm H3).1, (M.th e hm H3).2, M.sz e hm, fun hx hy => ?_, q2'.1, q2'.2⟩
      have tk : xs.take (i + 1) = xs.take i ++ [e] := by
        obtain ⟨hl, rfl⟩ := List.getElem?_eq_some_iff.mp he
        exact List.take_succ_eq_append_getElem hl
      obtain ⟨e1, e2⟩ := e
      dsimp only at hx hy hTe3 tk ⊢
      cases e1 <;> first | (exact absurd hx Bool.false_ne_true) | skip
      cases e2 <;> first | (exact absurd hy Bool.false_ne_true) | skip
      rename_i n v
      have okp : ∀ x ∈ pl ++ [(n, v)], isName x.1 = true ∧ isWt x.2 = true := fun x hx' => by
        rcases List.mem_append.mp hx' with z | z
        · exact h3 x z
        · rw [List.mem_singleton.mp z]
          exact ⟨hx, hy⟩
      have tk2 : xs.take (i + 1) = vpr (pl ++ [(n, v)]) := by
        rw [tk, h2, vpr_snoc]
      refine ⟨_, rfl, _, rfl, y, _, rfl, DGet.of (.inl h4) n, _, rfl, ?_⟩
      rw [Option.isSome_map, ← has_get]
      refine ite2 (fun h => ?_) (fun h => ?_)
      · have hin := (tally_has _ _ _).mp h
        have dg := DGet.of (.inl h4 : Rd H3 y (.dK (kvc (tally (keysC (sortC c)) pl)))) n
        rw [tally_get hin] at dg
        refine ⟨_, rfl, _, rfl, y, _, rfl, dg, _, rfl, _, _, rfl, rfl, _, DPut.of h4 n _ (small ?_), _, _, _, rfl, fun b o eb => ?_, tk2, okp, ?_⟩
        · rw [tally_len]
          omega
        · rw [upd_ne (ne_of_none eb ny)]
          exact h1 _ _ eb
        · rw [upd_same, ← tally_put (e := (n, v)) hin]
      · refine ⟨_, _, _, rfl, h1, tk2, okp, ?_⟩
        rw [h4, tally_out (e := (n, v)) fun z => h ((tally_has _ _ _).mpr z)]
    · rintro σ H3 ⟨v3, v4, pl, rfl, h1, h2, h3, h4⟩
      refine ⟨_, rfl, q1 pl ?_ h3 H3 y ny h1 h4⟩
      rw [← h2, List.length_map, hxs, List.take_of_length_le (Nat.le_refl _)]
end
/-! ### what the second pass tells, or how it refuses -/
def okV (e : V × V) : Prop := isNameV e.1 = true ∧ isWtV e.2 = true
theorem vpr_ok {pl : CM} (h : ∀ e ∈ pl, isName e.1 = true ∧ isWt e.2 = true) : ∀ e ∈ vpr pl, okV e := by
  intro e he
  unfold vpr at he
  obtain ⟨z, hz, rfl⟩ := List.mem_map.mp he
  exact h z hz
theorem vpr_inj : ∀ {a b : CM}, vpr a = vpr b → a = b
  | [], [], _ => rfl
  | [], _ :: _, h => nomatch h
  | _ :: _, [], h => nomatch h
  | x :: a, y :: b, h => by
    unfold vpr at h
    rw [List.map_cons, List.map_cons] at h
    have h1 := (List.cons.inj h).1
    have h2 := vpr_inj (a := a) (b := b) (List.cons.inj h).2
    have e1 := V.str.inj (Prod.mk.inj h1).1
    have e2 := V.int.inj (Prod.mk.inj h1).2
    rw [h2, Prod.ext e1 e2]
theorem first_bad {x y : V × V} {r s : List (V × V)} : ∀ {a b : List (V × V)}, (∀ e ∈ a, okV e) → (∀ e ∈ b, okV e) → ¬ okV x → ¬ okV y → a ++ x :: r = b ++ y :: s → x = y
  | [], [], _, _, _, _, h => (List.cons.inj h).1
  | [], z :: b, _, hb, hx, _, h => absurd (by rw [(List.cons.inj h).1]; exact hb z (List.mem_cons_self ..)) hx
  | z :: a, [], ha, _, _, hy, h => absurd (by rw [← (List.cons.inj h).1]; exact ha z (List.mem_cons_self ..)) hy
  | z :: a, u :: b, ha, hb, hx, hy, h => first_bad (a := a) (b := b) (fun e he => ha e (List.mem_cons_of_mem _ he)) (fun e he => hb e (List.mem_cons_of_mem _ he)) hx hy (List.cons.inj h).2
/-- how a list of comings ends: all right, or the first wrong one by its name or by its weight -/
inductive Pas (xs : List (V × V)) : Option Bool → CM → Prop where
  | all {pl : CM} (e : xs = vpr pl) (h : ∀ e ∈ pl, isName e.1 = true ∧ isWt e.2 = true) : Pas xs none pl
  | nam {pl : CM} {x : V × V} {rest : List (V × V)} (e : xs = vpr pl ++ x :: rest) (h : ∀ e ∈ pl, isName e.1 = true ∧ isWt e.2 = true) (b : isNameV x.1 = false) : Pas xs (some true) pl
  | wgt {pl : CM} {x : V × V} {rest : List (V × V)} (e : xs = vpr pl ++ x :: rest) (h : ∀ e ∈ pl, isName e.1 = true ∧ isWt e.2 = true) (a : isNameV x.1 = true) (b : isWtV x.2 = false) : Pas xs (some false) pl
theorem pass_all {K : PySem.W.Frag} {H : Hp} {xs : List (V × V)} {pl : CM} {CN CW : Addr} {ok : CM → Prop} {E : Value → Option Addr → Hp → Prop} (h : Pas xs none pl) (q : ok pl) : spPass K H xs CN CW ok E := by
  cases h with
  | all e h =>
    refine ⟨fun pl' e' _ => ?_, fun pl' x rest e' _ H' _ => ?_⟩
    · rw [vpr_inj (e'.symm.trans e)]
      exact q
    · have hx : okV x := vpr_ok h x (by rw [← e, e']; exact List.mem_append_right _ (List.mem_cons_self ..))
      exact ⟨fun z => absurd (hx.1.symm.trans z) (by decide), fun _ z => absurd (hx.2.symm.trans z) (by decide)⟩
theorem pass_nam {K : PySem.W.Frag} {H : Hp} {xs : List (V × V)} {pl : CM} {CN CW : Addr} {ok : CM → Prop} {E : Value → Option Addr → Hp → Prop} (h : Pas xs (some true) pl) (q : ∀ H' : Hp, Ex H H' → E (.ref CN) none H') : spPass K H xs CN CW ok E := by
  cases h with
  | @nam _ x rest e h b =>
    have nb : ¬ okV x := fun z => by rw [z.1] at b; cases b
    refine ⟨fun pl' e' h' => absurd (vpr_ok h' x (by rw [← e', e]; exact List.mem_append_right _ (List.mem_cons_self ..))) nb, fun pl' x' rest' e' h' H' ex => ⟨fun _ => q H' ex, fun z1 z2 => ?_⟩⟩
    have nb' : ¬ okV x' := fun z => by rw [z.2] at z2; cases z2
    have := first_bad (vpr_ok h) (vpr_ok h') nb nb' (e.symm.trans e')
    rw [← this, b] at z1
    cases z1
theorem pass_wgt {K : PySem.W.Frag} {H : Hp} {xs : List (V × V)} {pl : CM} {CN CW : Addr} {ok : CM → Prop} {E : Value → Option Addr → Hp → Prop} (h : Pas xs (some false) pl) (q : ∀ H' : Hp, Ex H H' → E (.ref CW) none H') : spPass K H xs CN CW ok E := by
  cases h with
  | @wgt _ x rest e h a b =>
    have nb : ¬ okV x := fun z => by rw [z.2] at b; cases b
    refine ⟨fun pl' e' h' => absurd (vpr_ok h' x (by rw [← e', e]; exact List.mem_append_right _ (List.mem_cons_self ..))) nb, fun pl' x' rest' e' h' H' ex => ⟨fun z1 => ?_, fun _ _ => q H' ex⟩⟩
    have nb' : ¬ okV x' := fun z => by rw [z.1] at z1; cases z1
    have := first_bad (vpr_ok h) (vpr_ok h') nb nb' (e.symm.trans e')
    rw [← this, a] at z1
    cases z1
/-- isinstance(x, (c1, c2, ..)), x an error or not -/
def rIsUT (K : PySem.W.Frag) : List V → Hp → VK → Prop := fun xs H Q => rIsiT K xs H Q ∨ rIsXT K xs H Q
theorem call_isUT {X : Cx} : CallR X (.builtin "isinstance") (rIsUT X.K) := by
  intro pins s σ H xs us Q I r h
  rcases h with h | h
  · exact call_isiT pins s σ H xs us Q I r h
  · exact call_isXT pins s σ H xs us Q I r h
section
variable {K : PySem.W.Frag} {σ : L2.St} {H : Hp} {Q : VK}
/-- [e[1] for e in l if e[0] == n] of pairs: the weights of a name -/
theorem wsum_reads {i j v : Nat} {a : Addr} {ts : List Addr} {pl : CM} {n : Str} (hi : σ[i]? = some (some (.ref a))) (hw : ∀ t : Addr, wipe ((wipe σ [v]).set v (some (.ref t))) [v] = wipe σ [v]) (hv : ∀ t : Addr, ((wipe σ [v]).set v (some (.ref t)))[v]? = some (some (.ref t)))
    (hj : ∀ t : Addr, ((wipe σ [v]).set v (some (.ref t)))[j]? = some (some (.str n))) (hS : SqL K H a (ts.map V.ref)) (hP : PrsAt H ts pl) (hl : pl.length ≤ 1000)
    (q : ∀ (H' : Hp) (r : Addr), H r = none → Ex H H' → H' r = some (.lst (((pl.filter fun e => decide (e.1 = n)).map (·.2)).map V.int)) → Q (.ref r) H') :
    wLc (iList K (tVar i)) (gName v) (tTest (tOp rEq (tOp (rIxT K) (tVar v) (tC (.int 0))) (tVar j))) (tOp (rIxT K) (tVar v) (tC (.int 1))) [v] σ H Q := by
  rw [wLc_eq]
  refine ⟨_, hi, a, rfl, ⟨_, hS⟩, fun L hL => ?_⟩
  refine lc_list (K := K) (a := a) (xs := ts.map V.ref) (fun k H2 => Ex H H2 ∧ H2 L = some (.lst ((((pl.take k).filter fun e => decide (e.1 = n)).map (·.2)).map V.int))) ⟨Evl.Ex.new hL, upd_same⟩ (fun k H2 _ h => sql_ex hS h.1) ?_ ?_
  · rintro k x H2 hk ⟨h1, h2⟩
    rw [List.getElem?_map] at hk
    obtain ⟨T1, hT, rfl⟩ : ∃ T1, ts[k]? = some T1 ∧ V.ref T1 = x := by
      cases e : ts[k]? with
      | none => rw [e] at hk; cases hk
      | some T1 => rw [e] at hk; exact ⟨T1, rfl, Option.some.inj hk⟩
    obtain ⟨e, he, hTe⟩ := LiI.paired_get hP hT
    have hTe2 := h1 _ _ hTe
    have tk : pl.take (k + 1) = pl.take k ++ [e] := by
      obtain ⟨hl, rfl⟩ := List.getElem?_eq_some_iff.mp he
      exact List.take_succ_eq_append_getElem hl
    refine ⟨hw T1, _, hv T1, T1, _, 0, .str e.1, rfl, rfl, SqT.of hTe2, atI_nat (j := 0) rfl, _, hj T1, rfl, _, rfl, ?_⟩
    refine ite2 (fun h => ?_) (fun h => ?_)
    · have hn : e.1 = n := V.str.inj (of_decide_eq_true h)
      refine ⟨_, hv T1, T1, _, 1, .int e.2, rfl, rfl, SqT.of hTe2, atI_nat (j := 1) rfl, _, h2, small ?_, fun b o eb => ?_, ?_⟩
      · rw [List.length_map, List.length_map]
        have a1 := List.length_filter_le (fun e : Str × Int => decide (e.1 = n)) (pl.take k)
        have a2 : (pl.take k).length ≤ pl.length := by rw [List.length_take]; omega
        omega
      · rw [upd_ne (ne_of_none eb hL)]
        exact h1 _ _ eb
      · rw [upd_same, tk]
        simp [List.filter_append, hn]
    · have hn : ¬ e.1 = n := fun z => h (decide_eq_true (congrArg V.str z))
      refine ⟨h1, ?_⟩
      rw [h2, tk]
      simp [List.filter_append, hn]
  · rintro H2 ⟨h1, h2⟩
    rw [List.length_map, prs_len hP, List.take_of_length_le (Nat.le_refl _)] at h2
    exact q H2 L hL h1 h2
theorem cms_pl {H : Hp} {l : Addr} {ts : List Addr} {pl : CM} (hS : SqL K H l (ts.map V.ref)) (hP : PrsAt H ts pl) (hn : ∀ e ∈ pl, isName e.1 = true) : Cms K H l ts (vpr pl) := by
  refine ⟨hS, vs_prs hP, fun e he H' => ?_, fun e he z h => ?_⟩
  · unfold vpr at he
    obtain ⟨y, hy, rfl⟩ := List.mem_map.mp he
    exact ⟨thing_str _, thing_int _⟩
  · unfold vpr at he
    obtain ⟨y, hy, rfl⟩ := List.mem_map.mp he
    cases h
    exact name_size (hn y hy)
end
/-! ### heavy -/
section
variable {K : PySem.W.Frag} {σ : L2.St} {H : Hp} {Q : VK}
/-- [k for k in d if ..]: the names of a table, those that pass, in its own order -/
theorem keysel_reads {tt : TT} {d : Addr} {c : CM} {i v : Nat} (f : Str → Bool) (hi : ∀ σ' : L2.St, σ' = σ → σ'[i]? = some (some (.ref d))) (hd : H d = some (.dK (kvc c))) (hl : c.length ≤ 63) (hw : ∀ n : Str, wipe ((wipe σ [v]).set v (some (.str n))) [v] = wipe σ [v]) (hv : ∀ n : Str, ((wipe σ [v]).set v (some (.str n)))[v]? = some (some (.str n)))
    (hc : ∀ (n : Str) (o : Obj) (H' : Hp) (Qb : Bool → Hp → Prop), n ∈ keysC c → H' d = some (.frz o (.dK (kvc c))) → (∀ b o, b ≠ d → H b = some o → H' b = some o) → Qb (f n) H' → tt ((wipe σ [v]).set v (some (.str n))) H' Qb)
    (q : ∀ (H' : Hp) (r : Addr), H r = none → Ex H H' → H' r = some (.lst (((keysC c).filter f).map V.str)) → Q (.ref r) H') :
    tLockE (wLc (iKeys (tVar i)) (gName v) tt (tVar v) [v]) σ H Q := by
  rw [wLc_eq]
  refine ⟨d, .dK (kvc c), hd, trivial, fun od => ?_⟩
  refine ⟨_, hi _ rfl, d, od, rfl, .inl ⟨kvc c, upd_same, fun L hL => ?_⟩⟩
  have dL : d ≠ L := fun z => by rw [← z, upd_same] at hL; cases hL
  have hL0 : H L = none := by
    rw [upd_ne dL.symm] at hL
    exact hL
  refine DK.lc_it (n := c.length) (fun i H2 => H2 d = some (.frz od (.dK (kvc c))) ∧ (∀ b o, b ≠ d → H b = some o → H2 b = some o) ∧ H2 L = some (.lst ((((keysC c).take i).filter f).map V.str)))
    ⟨by rw [upd_ne dL]; exact upd_same, fun b o hb e => by rw [upd_ne (ne_of_none e hL0), upd_ne hb]; exact e, upd_same⟩ ?_ ?_ ?_ ?_
  · rintro i H2 hi ⟨h1, h2, h3⟩
    exact ⟨h1, by rw [len_kvc]; exact hi⟩
  · rintro H2 ⟨h1, h2, h3⟩
    exact ⟨h1, by rw [len_kvc]; exact Nat.le_refl _⟩
  · rintro i H2 hi ⟨h1, h2, h3⟩ x H3 ⟨rfl, k, y, hk, rfl⟩
    have ei : c[i]? = some c[i] := List.getElem?_eq_getElem hi
    have e0 : (kvc c)[i]? = some (Sum.inr c[i].1, V.int c[i].2) := by
      unfold kvc
      rw [List.getElem?_map, ei]
      rfl
    rw [e0] at hk
    cases hk
    have ek : (keysC c)[i]? = some c[i].1 := by
      unfold keysC
      rw [List.getElem?_map, ei]
      rfl
    have hil : i < (keysC c).length := (List.getElem?_eq_some_iff.mp ek).1
    have tk : (keysC c).take (i + 1) = (keysC c).take i ++ [c[i].1] := by
      rw [List.take_succ_eq_append_getElem hil]
      rw [(List.getElem?_eq_some_iff.mp ek).2]
    refine ⟨hw _, hc _ od H3 _ (List.mem_of_getElem? ek) h1 h2 ?_⟩
    refine ite2 (fun h => ?_) (fun h => ?_)
    · refine ⟨_, hv _, _, h3, small ?_, by rw [upd_ne dL]; exact h1, fun b o hb e => by rw [upd_ne (ne_of_none e hL0)]; exact h2 b o hb e, ?_⟩
      · rw [List.length_map]
        have a1 := List.length_filter_le f ((keysC c).take i)
        have a2 : ((keysC c).take i).length ≤ i := by rw [List.length_take]; omega
        omega
      · rw [upd_same, tk, List.filter_append, List.map_append, List.filter_cons_of_pos h]
        rfl
    · refine ⟨h1, h2, ?_⟩
      rw [h3, tk, List.filter_append, List.map_append, List.filter_cons_of_neg h]
      simp
  · rintro H2 ⟨h1, h2, h3⟩
    rw [List.take_of_length_le (by unfold keysC; rw [List.length_map]; exact Nat.le_refl _)] at h3
    refine ⟨h1, q _ L hL0 (fun b o e => ?_) (by rw [upd_ne dL.symm]; exact h3)⟩
    by_cases hb : b = d
    · rw [hb, upd_same]
      rw [hb, hd] at e
      exact e
    · rw [upd_ne hb]
      exact h2 b o hb e
end
section
variable {P : Program} {w : World} {K : PySem.W.Frag} {mg : Str → Option Value} {base : Heap} {C CN CW CD : Addr}
def spHeavy (K : PySem.W.Frag) (CN CW CD : Addr) : Sp := fun vs H Q E => ∃ (l : Addr) (ts : List Addr) (xs : List (V × V)) (x : V), vs = [.ref l, x] ∧ Cms K H l ts xs ∧ Thing K H x ∧ (isRoomV x = false → E (.ref CD) none H) ∧
  (∀ r, x = .int r → 1 ≤ r → r ≤ 50 → spPass K H xs CN CW (fun pl => ∀ (H' : Hp) (q : Addr) (L : List Str), Ex H H' → Heavy r pl L → H' q = some (.lst (L.map V.str)) → Q (.ref q) H') E)
theorem ok_heavy {f fI : Addr} {fd fdI : FuncData} (F : Fun K "heavy" "heavy" sHeavy f fd) (T : DkT K mg C CN CW CD) (MI : Mk K C fI) (GI : FnOk P w K mg base (L2.CX P w) 3 fI fdI pDInit (spInit K C CD)) (bI : Binds K fdI pDInit [])
    (GD : Gf P w K mg base (L2.CX P w) 2 "need_drawers" pNeedDrawers (spNeedDrawers K CD)) (GC : Gm P w K mg base (L2.CX P w) C 3 "come" pDCome (spCome K C CN CW)) (GK : Gf P w K mg base (L2.CX P w) 3 "counted" pCounted (spCounted K C CN CW))
    (GW : Gm P w K mg base CX0 C 1 "weight" pDWeight (spNum C fun _ _ t => t)) : FnOk P w K mg base (L2.CX P w) 5 f fd pHeavy (spHeavy K CN CW CD) := by
  obtain ⟨fD, fdD, gD, bD, mD, kD⟩ := GD.ex
  obtain ⟨f1, fd1, gCm, bCm, mCm⟩ := GC.ex
  obtain ⟨fK, fdK, gK, bK, mK, kK⟩ := GK.ex
  obtain ⟨f2, fd2, gWe, bWe, mWe⟩ := GW.ex
  refine F.okX cHeavy (fun vs H Q E h => ?_) (fun cdv A outer s H vs Q E hr h => ?_)
  · obtain ⟨l, ts, xs, x, rfl, _⟩ := h
    rfl
  · obtain ⟨l, ts, xs, x, rfl, M, tx, qD, qR⟩ := h
    have hu := hu_of hr
    refine ⟨_, pss_cons (ps_expr (pe_call gD (hr.mono (by decide)) rfl mD kD bD .nil (passes_call (takes_of rfl rfl rfl rfl) (fun _ _ _ _ z => z)) (pa_cons (pv 1) pa_nil)))
      (pss_cons (ps_set (i := 2) cHeavy.nd rfl (Or.inr rfl) (pe_make MI GI hr rfl T.mgC bI .nil passL (pa_cons (pv 1) pa_nil)))
      (pss_cons (ps_for (passes_of rfl) rfl (pi_list (pv 0)) (pg_tup rfl (pgs_cons (pg_name (i := 3) cHeavy.nd rfl (Or.inl rfl)) (pgs_cons (pg_name (i := 4) cHeavy.nd rfl (Or.inl rfl)) pgs_nil)))
        (pss_one (ps_expr (pe_meth (pv 2) T.cl mCm gCm (hr.mono (by decide)) bCm .nil (passes_call (takes_of rfl rfl rfl rfl) (fun _ _ _ _ z => z)) (pa_cons (pv 3) (pa_cons (pv 4) pa_nil))))))
      (pss_cons (ps_set (i := 5) cHeavy.nd rfl (Or.inr rfl) (pe_call gK (hr.mono (by decide)) rfl mK kK bK .nil (passes_call (takes_of rfl rfl rfl rfl) (fun _ _ _ _ z => z)) (pa_cons (pv 2) (pa_cons (pv 0) pa_nil))))
      (pss_one (ps_ret (pe_lock (pe_lc (own := [("name", 3)]) (g := gName 3) (tt := tTest (tOp (rI0 fun i j => .bl (decide (j < i))) (tOp (rI CMul fun i j => .int (i * j)) (tDGet (tVar 5) (tVar 3)) (tOp (rI0 fun i j => .int (i + j)) (tVar 1) (tC (.int 1)))) (tMeth C "weight" (spNum C fun _ _ t => t) [] E0 (tVar 2) tNil))) rfl cHeavy.nd (pi_keys (pv 5)) (blkOk_by (own := [("name", 3)]) (N := nHeavy) (sc := defScope sHeavy) (by decide +kernel))
        (fun _ _ _ _ _ => pg_name (i := 3) cHeavy.nd rfl (Or.inl rfl)) (fun _ _ _ _ _ => pts_one (pt_cmpR op_gt (pe_op op_mul (pe_dget hu (pv 5) (pv 3) (fun _ _ => rfl)) (pe_op op_add (pv 1) pe_int)) (pe_meth0 (pv 2) T.cl mWe gWe (hr.mono (by decide)) bWe .nil pass0) (nomark _))) (fun _ _ _ _ _ => pv 3)))))))), ?_⟩
    rw [← wMeth_eq, ← wMake_eq, ← wLc_eq]
    refine sq_any (fun σ' H' => σ' = [some (.ref l), some x, none, none, none, none] ∧ H = H' ∧ ∃ r : Int, x = .int r ∧ 1 ≤ r ∧ r ≤ 50) (fun D' hD => ⟨_, rfl, x, rfl, tx, fun hx => hD _ _ ⟨rfl, rfl, ?_⟩, qD⟩) ?_
    · cases x <;> first | (exact absurd hx Bool.false_ne_true) | skip
      rename_i r
      exact ⟨r, rfl, of_decide_eq_true hx⟩
    rintro σ' _ ⟨rfl, rfl, r, rfl, r1, r2⟩
    obtain ⟨q1, q2⟩ := qR r rfl r1 r2
    refine sq_any (fun σ' H' => ∃ p d : Addr, σ' = [some (.ref l), some (.int r), some (.ref p), none, none, none] ∧ H p = none ∧ H d = none ∧ Ex H H' ∧ DeskAt C H' p d r [] 0 0)
      (fun D' hD => rd_new (fun Q' h' => ⟨_, rfl, h'⟩) r1 r2 fun p d0 H1 np nd0 _ ex1 D0 => hD _ _ ⟨p, d0, rfl, np, nd0, ex1, D0⟩) ?_
    rintro σ' H1 ⟨p, d0, rfl, np, nd0, ex1, D0⟩
    have hxs : ts.length = xs.length := M.at_.length
    refine sq_any (fun σ' H' => ∃ (d : Addr) (v3 v4 : Option V) (pl : CM), σ' = [some (.ref l), some (.int r), some (.ref p), v3, v4, none] ∧ xs = vpr pl ∧ (∀ e ∈ pl, isName e.1 = true ∧ isWt e.2 = true) ∧ Ex H H' ∧ DeskAt C H' p d r (runC r pl).1 (runC r pl).2.1 (runC r pl).2.2) (fun D' hD => ?_) ?_
    · refine ⟨_, rfl, l, rfl, ⟨_, sql_ex M.sq ex1⟩, for_list (K := K) (a := l) (xs := ts.map V.ref) (fun i σ H3 => ∃ (d : Addr) (v3 v4 : Option V) (pl : CM), σ = [some (.ref l), some (.int r), some (.ref p), v3, v4, none] ∧ xs.take i = vpr pl ∧ (∀ e ∈ pl, isName e.1 = true ∧ isWt e.2 = true) ∧ Ex H H3 ∧ H d = none ∧ DeskAt C H3 p d r (runC r pl).1 (runC r pl).2.1 (runC r pl).2.2)
        ⟨d0, _, _, [], rfl, rfl, (fun _ h => nomatch h), ex1, nd0, D0⟩ (fun _ _ _ _ ⟨_, _, _, _, _, _, _, h, _⟩ => sql_ex M.sq h) ?_ ?_⟩
      · rintro i x σ H3 hi ⟨d, v3, v4, pl, rfl, h2, h3, h1, nd, D⟩
        rw [List.getElem?_map] at hi
        obtain ⟨T1, hT, rfl⟩ : ∃ T1, ts[i]? = some T1 ∧ V.ref T1 = x := by
          cases e : ts[i]? with
          | none => rw [e] at hi; cases hi
          | some T1 => rw [e] at hi; exact ⟨T1, rfl, Option.some.inj hi⟩
        obtain ⟨e, he, hTe⟩ := LiI.paired_get M.at_ hT
        have hTe3 := h1 _ _ hTe
        have hm := List.mem_of_getElem? he
        have split : xs = vpr pl ++ e :: xs.drop (i + 1) := by
          rw [← h2]
          obtain ⟨hl, rfl⟩ := List.getElem?_eq_some_iff.mp he
          rw [List.getElem_cons_drop, List.take_append_drop]
        refine ⟨T1, _, rfl, SqT.of hTe3, rfl, _, _, rfl, _, _, rfl, rfl, ?_⟩
        have q2' := q2 pl e _ split h3 H3 h1
        rw [wMeth_eq]
        obtain ⟨dx, hp⟩ := D.ob
        refine ⟨_, rfl, p, dx, _, rfl, hp, dfl_no _ _ _ _ (by decide +kernel), _, rfl, _, rfl, p, d, r, _, _, _, e.1, e.2, rfl, D, (M.th e hm H3).1, (M.th e hm H3).2, M.sz e hm, fun n wt hn hw hx hy H4 d' hd' off D' => ?_, q2'.1, q2'.2⟩
        have tk : xs.take (i + 1) = xs.take i ++ [e] := by
          obtain ⟨hl, rfl⟩ := List.getElem?_eq_some_iff.mp he
          exact List.take_succ_eq_append_getElem hl
        obtain ⟨e1, e2⟩ := e
        cases hn
        cases hw
        refine ⟨d', _, _, pl ++ [(n, wt)], rfl, by rw [tk, h2, vpr_snoc], fun x hx' => ?_, ex_off h1 off (fun b hb => ?_), ?_, by rw [run_snoc]; exact D'⟩
        · rcases List.mem_append.mp hx' with z | z
          · exact h3 x z
          · rw [List.mem_singleton.mp z]
            exact ⟨hx, hy⟩
        · rcases List.mem_cons.mp hb with z | z
          · rw [z]
            exact np
          · rw [List.mem_singleton.mp z]
            exact nd
        · rcases hd' with rfl | h
          · exact nd
          · exact none_ex h1 h
      · rintro σ H3 ⟨d, v3, v4, pl, rfl, h2, h3, h1, nd, D⟩
        rw [List.length_map, hxs, List.take_of_length_le (Nat.le_refl _)] at h2
        exact hD _ _ ⟨d, v3, v4, pl, rfl, h2, h3, h1, D⟩
    rintro σ' H2 ⟨d, v3, v4, pl, rfl, hpl, hok, ex2, D⟩
    have q1' := q1 pl hpl hok
    clear q1 q2 D0 ex1
    have ps : Pas xs none pl := .all hpl hok
    refine sq_any (fun σ' H' => ∃ y : Addr, σ' = [some (.ref l), some (.int r), some (.ref p), v3, v4, some (.ref y)] ∧ H2 y = none ∧ Ex H2 H' ∧ H' y = some (.dK (kvc (tally (keysC (sortC (runC r pl).1)) pl)))) (fun D' hD => ?_) ?_
    · exact ⟨_, rfl, _, rfl, p, d, r, _, _, _, l, ts, xs, rfl, D, M.ex ex2, pass_all ps fun H' y ny ex ey => hD _ _ ⟨y, rfl, ny, ex, ey⟩⟩
    rintro σ' H3 ⟨y, rfl, ny, ex3, ey⟩
    have D3 := D.ex ex3
    have hlen : (tally (keysC (sortC (runC r pl).1)) pl).length ≤ 63 := by
      rw [tally_len]
      unfold keysC
      rw [List.length_map, sortC_len]
      have := D.len
      omega
    refine keysel_reads (fun n => decide ((runC r pl).2.2 < wsum pl n * (r + 1))) (fun _ h => by rw [h]; rfl) ey hlen (fun _ => rfl) (fun _ => rfl) (fun n o H' Qb hn hy hb hQ => ?_) (fun H' q nq ex hq => ?_)
    · have hn' : n ∈ keysC (sortC (runC r pl).1) := by rw [tally_keys] at hn; exact hn
      have dg := DGet.of (.inr ⟨o, hy⟩ : Rd H' y (.dK (kvc (tally (keysC (sortC (runC r pl).1)) pl)))) n
      rw [tally_get hn'] at dg
      obtain ⟨dx, hp⟩ := D.ob
      obtain ⟨dx3, hp3⟩ := D3.ob
      have py : p ≠ y := ne_of_none hp ny
      have dy : d ≠ y := ne_of_none D.dc ny
      have D' : DeskAt C H' p d r (runC r pl).1 (runC r pl).2.1 (runC r pl).2.2 := ⟨⟨dx3, hb _ _ py hp3⟩, hb _ _ dy D3.dc, D3.nd, D3.ln, D3.r1, D3.r2⟩
      refine ⟨_, rfl, _, rfl, y, _, rfl, dg, _, rfl, _, _, rfl, rfl, _, _, rfl, rfl, .inr ⟨by omega, by omega⟩, ?_⟩
      refine rd_num (by decide +kernel) rfl D' ⟨_, _, rfl, rfl, _, rfl, hQ⟩
    · rw [tally_keys] at hq
      exact q1' H' q _ ((ex2.trans ex3).trans ex) (heavy_desk r1 fun e he => (hok e he).2) hq
end
section
variable {P : Program} {w : World} {K : PySem.W.Frag} {mg : Str → Option Value} {base : Heap} {C CN CW CD CQ CP CT CE : Addr}
def spTold9 (K : PySem.W.Frag) : Sp := fun vs H Q _ => ∃ (l : Addr) (ts : List Addr) (xs : List (V × V)) (x : V), vs = [.ref l, x] ∧ Cms K H l ts xs ∧ (∀ H' : Hp, Thing K H' x) ∧ (isRoomV x = false → ∀ H' : Hp, Ex H H' → Q (.str "desk") H') ∧
  (∀ r, x = .int r → 1 ≤ r → r ≤ 50 → ∃ (o : Option Bool) (pl : CM), Pas xs o pl ∧ (o = none → ∀ (H' : Hp) (q : Addr) (L : List Str), Ex H H' → Heavy r pl L → H' q = some (.lst (L.map V.str)) → Q (.ref q) H') ∧
    (o = some true → ∀ H' : Hp, Ex H H' → Q (.str "name") H') ∧ (o = some false → ∀ H' : Hp, Ex H H' → Q (.str "weight") H'))
theorem ok_told9 {f : Addr} {fd : FuncData} (F : Fun K "_law_told" "_law_told" sLTold f fd) (GH : Gf P w K mg base (L2.CX P w) 5 "heavy" pHeavy (spHeavy K CN CW CD)) (GW : Gf P w K mg base CX0 1 "_law_word" pLWord (spWord K CN CW CD CQ CP CT))
    (gE : mg "DrawerError" = some (.ref CE))
    (hN : PySem.W.exmOne K (.ref CN) (.ref CE) = some true) (hW : PySem.W.exmOne K (.ref CW) (.ref CE) = some true) (hD' : PySem.W.exmOne K (.ref CD) (.ref CE) = some true)
    (kN : Kind K CN CW CD CQ CP CT CN true false false false false false) (kW : Kind K CN CW CD CQ CP CT CW false true false false false false) (kD : Kind K CN CW CD CQ CP CT CD false false true false false false) :
    FnOk P w K mg base CX0 6 f fd pLTold (spTold9 K) := by
  obtain ⟨f1, fd1, gH, bH, mH, kH⟩ := GH.ex
  obtain ⟨f2, fd2, gW, bW, mW, kpW⟩ := GW.ex
  refine F.ok cLTold (fun vs H Q E h => ?_) (fun cdv A outer s H vs Q E hr h => ?_)
  · obtain ⟨l, ts, xs, x, rfl, _⟩ := h
    rfl
  · obtain ⟨l, ts, xs, x, rfl, M, tx, qD, qR⟩ := h
    refine ⟨_, pss_cons (ps_set (i := 2) cLTold.nd rfl (Or.inl rfl) pe_non)
      (pss_cons (ps_set (i := 3) cLTold.nd rfl (Or.inl rfl) pe_non)
      (pss_cons (ps_try_hold (i := 4) (j := 2) (tb := fun W => tAsg (tCall (spHeavy K CN CW CD) [] (fun cls d H => ∀ σ, W cls d σ H) (tCons (tVar 0) (tCons (tVar 1) tNil))) (gName 3)) (Wout := fun _ _ _ _ => False) rfl rfl rfl cLTold.nd rfl rfl ⟨rfl, by decide, Or.inl gE⟩ takes0
        (fun W pn xe tk _ => pss_one (ps_set (i := 3) cLTold.nd rfl (Or.inl rfl) (pe_call gH hr rfl mH kH bH .nil (passes_call tk (fun cls d σ H h => h σ)) (pa_cons (pv 0) (pa_cons (pv 1) pa_nil)))))
        (fun a pn => pss_one (ps_set (i := 2) cLTold.nd rfl (Or.inl rfl) (pv 4))))
      (pss_cons (ps_if (pt_cmp (pc_isN (pv 2))) (pss_one (ps_ret (pv 3))) pss_nil)
      (pss_one (ps_ret (pe_call gW (hr.mono (by decide)) rfl mW kpW bW .nil pass0 (pa_cons (pv 2) pa_nil))))))), ?_⟩
    refine sq_any (fun σ' H' => σ' = [some (.ref l), some x, some .non, none, none] ∧ H = H') (fun D' hD => hD _ _ ⟨rfl, rfl⟩) ?_
    rintro σ' _ ⟨rfl, rfl⟩
    refine sq_any (fun σ' H' => σ' = [some (.ref l), some x, some .non, some .non, none] ∧ H = H') (fun D' hD => hD _ _ ⟨rfl, rfl⟩) ?_
    rintro σ' _ ⟨rfl, rfl⟩
    refine sq_any (fun σ' H' => (∃ y : Addr, σ' = [some (.ref l), some x, some .non, some (.ref y), none] ∧ Q (.ref y) H') ∨
        ∃ (a D : Addr) (b1 b2 b3 : Bool), σ'[2]? = some (some (.ref a)) ∧ Ex H H' ∧ H' a = some (Held (.ref D) none a) ∧ Kind K CN CW CD CQ CP CT D b1 b2 b3 false false false ∧
          ∀ H' : Hp, Ex H H' → Q (.str (PySem.Txt.join " " (picked words6 [b1, b2, b3, false, false, false]))) H') (fun D' hQ => ?_) ?_
    · refine ⟨_, rfl, _, rfl, l, ts, xs, x, rfl, M, tx H, fun hx σ2 => ?_, fun r hxr r1 r2 => ?_⟩
      · exact hold_reads (n := 5) hD' (by decide) (by decide) fun σ' a h na => hQ _ _ (.inr ⟨a, CD, false, false, true, h, Evl.Ex.new na, upd_same, kD, qD hx⟩)
      · obtain ⟨o, pl, ps, q1, q2, q3⟩ := qR r hxr r1 r2
        cases o with
        | none => exact pass_all ps fun H' y L ex hv ey => hQ _ _ (.inl ⟨y, rfl, q1 rfl H' y L ex hv ey⟩)
        | some b =>
          cases b with
          | true =>
            refine pass_nam ps fun H' ex σ2 => ?_
            exact hold_reads (n := 5) hN (by decide) (by decide) fun σ' a h na => hQ _ _ (.inr ⟨a, CN, true, false, false, h, ex.trans (Evl.Ex.new na), upd_same, kN, q2 rfl⟩)
          | false =>
            refine pass_wgt ps fun H' ex σ2 => ?_
            exact hold_reads (n := 5) hW (by decide) (by decide) fun σ' a h na => hQ _ _ (.inr ⟨a, CW, false, true, false, h, ex.trans (Evl.Ex.new na), upd_same, kW, q3 rfl⟩)
    rintro σ' H2 (⟨y, rfl, fin⟩ | ⟨a, D2, b1, b2, b3, hs, ex2, ea, kk, fin⟩)
    · exact ⟨_, rfl, _, rfl, iteT ⟨_, rfl, fin⟩⟩
    · refine ⟨_, hs, _, rfl, iteF ?_⟩
      exact ⟨_, hs, .ref a, _, _, _, _, _, _, rfl, says_held ea kk.e kk.k1, says_held ea kk.e kk.k2, says_held ea kk.e kk.k3, says_held ea kk.e kk.k4, says_held ea kk.e kk.k5, says_held ea kk.e kk.k6, fun H3 e3 => fin H3 (ex2.trans e3)⟩
end
/-! ### what is due of texts and weights -/
theorem yes_of {σ : L2.St} {H : Hp} {A B : Hp → Prop} (h : A H) : tYes σ H fun b H3 => if b = true then A H3 else B H3 := L2.iteT (B := B H) h
section
variable {K : PySem.W.Frag} {σ : L2.St} {H : Hp} {Q : VK}
/-- [x for x in l if ..] of texts: those that pass -/
theorem strs_reads {te : TE} {tt : TT} {v : Nat} {xs : List Str} (f : Str → Bool) (hl : xs.length ≤ 1000) (hte : ∀ R : VK, (∀ (a : Addr) (H1 : Hp), Ex H H1 → H1 a = some (.lst (xs.map V.str)) → R (.ref a) H1) → te σ H R) (hw : ∀ n : Str, wipe ((wipe σ [v]).set v (some (.str n))) [v] = wipe σ [v])
    (hv : ∀ n : Str, ((wipe σ [v]).set v (some (.str n)))[v]? = some (some (.str n)))
    (hc : ∀ (n : Str) (H' : Hp) (Qb : Bool → Hp → Prop), n ∈ xs → Ex H H' → (∀ H'' : Hp, Ex H' H'' → Qb (f n) H'') → tt ((wipe σ [v]).set v (some (.str n))) H' Qb)
    (q : ∀ (H' : Hp) (r : Addr), Ex H H' → H' r = some (.lst ((xs.filter f).map V.str)) → Q (.ref r) H') :
    wLc (iList K te) (gName v) tt (tVar v) [v] σ H Q := by
  rw [wLc_eq]
  refine hte _ fun a H1 ex1 e1 => ?_
  refine ⟨a, rfl, ⟨_, SqL.of e1⟩, fun L hL => ?_⟩
  have aL := ne_of_none e1 hL
  refine lc_list (K := K) (a := a) (xs := xs.map V.str) (fun i H2 => Ex H1 H2 ∧ H2 L = some (.lst (((xs.take i).filter f).map V.str))) ⟨Evl.Ex.new hL, upd_same⟩ (fun i H2 _ h => SqL.of (h.1 _ _ e1)) ?_ ?_
  · rintro i x H2 hi ⟨h1, h2⟩
    rw [List.getElem?_map] at hi
    obtain ⟨n, hn, rfl⟩ : ∃ n, xs[i]? = some n ∧ V.str n = x := by
      cases e : xs[i]? with
      | none => rw [e] at hi; cases hi
      | some n => rw [e] at hi; exact ⟨n, rfl, Option.some.inj hi⟩
    have tk : xs.take (i + 1) = xs.take i ++ [n] := by
      obtain ⟨hl, rfl⟩ := List.getElem?_eq_some_iff.mp hn
      exact List.take_succ_eq_append_getElem hl
    refine ⟨hw n, hc n H2 _ (List.mem_of_getElem? hn) (ex1.trans h1) fun H3 h3 => ?_⟩
    refine ite2 (fun h => ?_) (fun h => ?_)
    · refine ⟨_, hv n, _, h3 _ _ h2, small ?_, fun b o eb => by rw [upd_ne (ne_of_none eb hL)]; exact h3 _ _ (h1 _ _ eb), ?_⟩
      · rw [List.length_map]
        have a1 := List.length_filter_le f (xs.take i)
        have a2 : (xs.take i).length ≤ xs.length := by rw [List.length_take]; omega
        omega
      · rw [upd_same, tk, List.filter_append, List.map_append, List.filter_cons_of_pos h]
        rfl
    · refine ⟨h1.trans h3, ?_⟩
      rw [h3 _ _ h2, tk, List.filter_append, List.map_append, List.filter_cons_of_neg h]
      simp
  · rintro H2 ⟨h1, h2⟩
    rw [List.length_map, List.take_of_length_le (Nat.le_refl _)] at h2
    exact q H2 L (ex1.trans h1) h2
/-- [(x, w) for x in l] of texts -/
theorem even_reads {te : TE} {ty : TE} {v : Nat} {xs : List Str} {W : Int} (hl : xs.length ≤ 1000) (hte : ∀ R : VK, (∀ (a : Addr) (H1 : Hp), Ex H H1 → H1 a = some (.lst (xs.map V.str)) → R (.ref a) H1) → te σ H R) (hw : ∀ n : Str, wipe ((wipe σ [v]).set v (some (.str n))) [v] = wipe σ [v])
    (hy : ∀ (n : Str) (H' : Hp) (R : VK), n ∈ xs → (∀ (t : Addr), H' t = none → R (.ref t) (upd H' t (.tup [.str n, .int W]))) → ty ((wipe σ [v]).set v (some (.str n))) H' R)
    (q : ∀ (H' : Hp) (r : Addr) (ts : List Addr), Ex H H' → H' r = some (.lst (ts.map V.ref)) → PrsAt H' ts (xs.map fun x => (x, W)) → Q (.ref r) H') :
    wLc (iList K te) (gName v) tYes ty [v] σ H Q := by
  rw [wLc_eq]
  refine hte _ fun a H1 ex1 e1 => ?_
  refine ⟨a, rfl, ⟨_, SqL.of e1⟩, fun L hL => ?_⟩
  refine lc_list (K := K) (a := a) (xs := xs.map V.str) (fun i H2 => ∃ ts : List Addr, Ex H1 H2 ∧ H2 L = some (.lst (ts.map V.ref)) ∧ PrsAt H2 ts ((xs.take i).map fun x => (x, W))) ⟨[], Evl.Ex.new hL, upd_same, .nil⟩ (fun i H2 _ h => by obtain ⟨_, h, _⟩ := h; exact SqL.of (h _ _ e1)) ?_ ?_
  · rintro i x H2 hi ⟨ts, h1, h2, h3⟩
    rw [List.getElem?_map] at hi
    obtain ⟨n, hn, rfl⟩ : ∃ n, xs[i]? = some n ∧ V.str n = x := by
      cases e : xs[i]? with
      | none => rw [e] at hi; cases hi
      | some n => rw [e] at hi; exact ⟨n, rfl, Option.some.inj hi⟩
    have tk : xs.take (i + 1) = xs.take i ++ [n] := by
      obtain ⟨hl, rfl⟩ := List.getElem?_eq_some_iff.mp hn
      exact List.take_succ_eq_append_getElem hl
    refine ⟨hw n, yes_of ?_⟩
    refine hy n H2 _ (List.mem_of_getElem? hn) fun t ht => ?_
    have exT := Evl.Ex.new (o := .tup [.str n, .int W]) ht
    have h2' := exT _ _ h2
    have tL : t ≠ L := fun z => by rw [z, h2] at ht; cases ht
    have offd : Off [L] (upd H2 t (.tup [.str n, .int W])) (upd (upd H2 t (.tup [.str n, .int W])) L (.lst (ts.map V.ref ++ [V.ref t]))) := Off.upd (List.mem_cons_self ..)
    refine ⟨_, h2', small ?_, ts ++ [t], fun b o eb => ?_, ?_, ?_⟩
    · have := prs_len h3
      rw [List.length_map, List.length_take] at this
      rw [List.length_map]
      omega
    · rw [upd_ne (ne_of_none eb hL)]
      exact exT _ _ (h1 _ _ eb)
    · rw [upd_same, List.map_append]
      rfl
    · rw [tk, List.map_append]
      refine prs_snoc (prs_off (prs_ex h3 exT) offd fun b hb xs hx => ?_) ?_
      · rw [List.mem_singleton.mp hb, h2'] at hx
        cases hx
      · rw [upd_ne tL]
        exact upd_same
  · rintro H2 ⟨ts, h1, h2, h3⟩
    rw [List.length_map, List.take_of_length_le (Nat.le_refl _)] at h3
    exact q H2 L ts (ex1.trans h1) h2 h3
end
abbrev st9 (a pn : Addr) (m : Int) (lc tr : Addr) (v7 v8 : Option V) (hh : Addr) (v10 v11 v12 v13 v14 v15 : Option V) : L2.St :=
  [some (.ref a), some (.ref pn), some (.int m), none, none, some (.ref lc), some (.ref tr), v7, v8, some (.ref hh), v10, v11, v12, v13, v14, v15]
section
variable {P : Program} {w : World} {K : PySem.W.Frag} {mg : Str → Option Value} {base : Heap} {C CN CW CD : Addr}
theorem ok_law {f : Addr} {fd : FuncData} (F : Fun K "law" "law" sLaw f fd) (G : LawG P w K mg base C CN CW CD) (GT : Gf P w K mg base CX0 6 "_law_told" pLTold (spTold9 K)) (mE : mg "enumerate" = none) (zs : mg "sum" = none) : FnOk P w K mg base CX0 7 f fd pLaw (spLaw K) := by
  have T := G.T
  obtain ⟨fN, fdN, gN, bN, mN, kpN⟩ := G.names.ex
  obtain ⟨fR, fdR, gR, bR, mR, kpR⟩ := G.drawn.ex
  obtain ⟨fC, fdC, gC, bC, mC, kpC⟩ := G.coming.ex
  obtain ⟨fX, fdX, gX, bX, mX, kpX⟩ := G.mixed.ex
  obtain ⟨fT, fdT, gT, bT, mT, kpT⟩ := GT.ex
  refine F.ok cLaw (fun vs H Q E h => ?_) (fun cdv A outer s H vs Q E hr h => ?_)
  · obtain ⟨a, ns, rfl, _⟩ := h
    rfl
  · obtain ⟨a, ns, rfl, hS, hlen, q⟩ := h
    have hu := hu_of hr
    have hu64 := hr.units
    refine ⟨_, pss_cons (ps_set (i := 1) cLaw.nd rfl (Or.inr rfl) (pe_call gN (hr.mono (by decide)) rfl mN kpN bN .nil pass0 (pa_cons (pv 0) pa_nil)))
      (pss_cons (ps_set (i := 2) cLaw.nd rfl (Or.inr rfl) (pe_call gX (hr.mono (by decide)) rfl mX kpX bX .nil pass0 (pa_cons (pe_callB (cr_sum rfl) (by rfl) zs boot_sum (pa_cons (pv 0) pa_nil)) (pa_cons pe_int pa_nil))))
      (pss_cons (ps_setLc (i := 5) (own := [("_law_k", 3), ("_law_cell", 4)]) (g := gTup K 2 (gCons (gName 3) (gCons (gName 4) gNil))) (tt := tYes) (te := tCall (spComing K) [] E0 (tCons (tVar 1) (tCons (tVar 4) (tCons (tVar 3) tNil)))) rfl cLaw.nd rfl rfl (sw_true rfl rfl rfl (by decide +kernel)) (pi_enum rfl mE (pa_cons (pv 0) pa_nil)) (blkOk_by (own := [("_law_k", 3), ("_law_cell", 4)]) (N := nLaw) (sc := defScope sLaw) (by decide +kernel))
        (fun _ _ _ _ _ => pg_tup rfl (pgs_cons (pg_name (i := 3) cLaw.nd rfl (Or.inl rfl)) (pgs_cons (pg_name (i := 4) cLaw.nd rfl (Or.inl rfl)) pgs_nil))) (fun _ _ _ _ _ => pts_nil) (fun _ _ _ _ _ => pe_call gC (hr.mono (by decide)) rfl mC kpC bC .nil pass0 (pa_cons (pv 1) (pa_cons (pv 4) (pa_cons (pv 3) pa_nil)))))
      (pss_cons (ps_set (i := 6) cLaw.nd rfl (Or.inr rfl) pe_dnewK)
      (pss_cons (ps_for PassesOwn.never rfl (pi_list (pv 5)) (pg_tup rfl (pgs_cons (pg_name (i := 7) cLaw.nd rfl (Or.inl rfl)) (pgs_cons (pg_name (i := 8) cLaw.nd rfl (Or.inl rfl)) pgs_nil)))
        (pss_one (ps_dput hu (pv 6) (pv 7) (pe_op op_add (pe_dget2 hu (pv 6) (pv 7) pe_int ⟨rfl, rfl, rfl, rfl⟩) (pv 8)) rfl)))
      (pss_cons (ps_set (i := 9) cLaw.nd rfl (Or.inl rfl) (pe_callTy call_list_of (by rfl) T.lst (by decide +kernel) (pa_cons (pv 5) pa_nil)))
      (pss_cons (ps_for PassesOwn.never rfl (pi_tup (pe_tup (pa_cons (pe_call gR (hr.mono (by decide)) rfl mR kpR bR .nil pass0 (pa_cons (pv 0) pa_nil)) (pa_cons (pe_op op_add pe_int (pe_op op_mod (pv 2) pe_int)) (pa_cons pe_int pa_nil))))) (pg_name (i := 10) cLaw.nd rfl (Or.inr rfl))
        (pss_cons (ps_setLc (i := 11) (own := [("_law_name", 7)]) (g := gName 7) (tt := tTest (tOp (rI0 fun i j => .bl (decide (j < i))) (tOp (rI CMul fun i j => .int (i * j)) (tDGet (tVar 6) (tVar 7)) (tOp (rI0 fun i j => .int (i + j)) (tVar 10) (tC (.int 1)))) (tCB rSumV (tCons (tBM0 K "dict" rVals (tVar 6)) tNil)))) rfl cLaw.nd rfl rfl (sw_true rfl rfl rfl (by decide +kernel))
          (pi_list (pe_callB (call_sortedD rfl) (by rfl) T.srt (by decide +kernel) (pa_cons (pv 6) pa_nil))) (blkOk_by (own := [("_law_name", 7)]) (N := nLaw) (sc := defScope sLaw) (by decide +kernel))
          (fun _ _ _ _ _ => pg_name (i := 7) cLaw.nd rfl (Or.inl rfl)) (fun _ _ _ _ _ => pts_one (pt_cmpR op_gt (pe_op op_mul (pe_dget hu (pv 6) (pv 7) (fun _ _ => rfl)) (pe_op op_add (pv 10) pe_int))
            (pe_callB (cr_sumV rfl) (by rfl) zs boot_sum (pa_cons (pe_bm0 PySem.F.plainAttrs_dict PySem.F.slot_dict_values PySem.F.type_dict_values mt_vals (pv 6)) pa_nil)) (nomark _))) (fun _ _ _ _ _ => pv 7))
        (pss_one (ps_if (PW.pt (pw_or (pt_cmpR (op_neD hu64) (pe_call gT (hr.mono (by decide)) rfl mT kpT bT .nil pass0 (pa_cons (pv 9) (pa_cons (pv 10) pa_nil))) (pv 11) (nomark _)) (pw_or1 (pt_cmpR (op_neD hu64) (pv 9) (pv 5) (nomark _))))) (pss_one (ps_ret pe_bl)) pss_nil))))
      (pss_cons (ps_set (i := 12) cLaw.nd rfl (Or.inl rfl) (pe_op op_add pe_int (pe_op op_mod (pe_op op_fdiv (pv 2) pe_int) pe_int)))
      (pss_cons (ps_setLc (i := 13) (own := [("_law_name", 7)]) (g := gName 7) (tt := tYes) (te := tTup (tCons (tVar 7) (tCons (tOp (rI0 fun i j => .int (i + j)) (tC (.int 1)) (tOp (rI CMul fun i j => .int (i * j)) (tVar 2) (tVar 2))) tNil))) rfl cLaw.nd rfl rfl (sw_true rfl rfl rfl (by decide +kernel))
          (pi_list (pe_slice sl_list (pv 1) po_none (po_some (pe_op op_add (pv 12) pe_int)))) (blkOk_by (own := [("_law_name", 7)]) (N := nLaw) (sc := defScope sLaw) (by decide +kernel))
          (fun _ _ _ _ _ => pg_name (i := 7) cLaw.nd rfl (Or.inl rfl)) (fun _ _ _ _ _ => pts_nil) (fun _ _ _ _ _ => pe_tup (pa_cons (pv 7) (pa_cons (pe_op op_add pe_int (pe_op op_mul (pv 2) (pv 2))) pa_nil))))
      (pss_cons (ps_if (PW.pt (pw_or (pt_cmpR (op_neD hu64) (pe_call gT (hr.mono (by decide)) rfl mT kpT bT .nil pass0 (pa_cons (pv 13) (pa_cons (pv 12) pa_nil))) (pe_lst pa_nil) (nomark _))
          (pw_or1 (pt_cmpR (op_neD hu64) (pe_call gT (hr.mono (by decide)) rfl mT kpT bT .nil pass0 (pa_cons (pe_op op_cat (pv 13) (pe_lst (pa_cons (pe_tup (pa_cons (pe_ix ix_list (pv 1) (pv 12) (fun _ _ => rfl)) (pa_cons pe_int pa_nil))) pa_nil))) (pa_cons (pv 12) pa_nil)))
            (pe_lst (pa_cons (pe_ix ix_list (pv 1) (pv 12) (fun _ _ => rfl)) pa_nil)) (nomark _))))) (pss_one (ps_ret pe_bl)) pss_nil)
      (pss_cons (ps_set (i := 14) cLaw.nd rfl (Or.inl rfl) (pe_lst (pa_cons (pe_tup (pa_cons (pe_ix ix_list (pv 1) pe_int (fun _ _ => rfl)) (pa_cons (pe_op op_add pe_int (pv 2)) pa_nil))) (pa_cons (pe_tup (pa_cons (pe_ix ix_list (pv 1) pe_int (fun _ _ => rfl)) (pa_cons (pe_op op_mul (pe_op op_add pe_int (pv 2)) (pv 12)) pa_nil))) pa_nil))))
      (pss_cons (ps_if (pt_cmpR (op_neD hu64) (pe_call gT (hr.mono (by decide)) rfl mT kpT bT .nil pass0 (pa_cons (pv 14) (pa_cons (pv 12) pa_nil))) (pe_slice sl_list (pe_lst (pa_cons (pe_ix ix_list (pv 1) pe_int (fun _ _ => rfl)) pa_nil)) po_none (po_some (pe_op op_sub (pv 12) pe_int))) (nomark _)) (pss_one (ps_ret pe_bl)) pss_nil)
      (pss_cons (ps_set (i := 15) cLaw.nd rfl (Or.inl rfl) (pe_ix ix_list (pe_lst (pa_cons (pe_tup (pa_cons pe_str (pa_cons pe_int pa_nil))) (pa_cons (pe_tup (pa_cons (pe_ix ix_list (pv 1) pe_int (fun _ _ => rfl)) (pa_cons pe_int pa_nil))) (pa_cons (pe_tup (pa_cons (pe_ix ix_list (pv 1) pe_int (fun _ _ => rfl)) (pa_cons pe_non pa_nil))) pa_nil))))
          (pe_op op_mod (pe_op op_fdiv (pv 2) pe_int) pe_int) (fun _ _ => rfl)))
      (pss_cons (ps_if (pt_cmpR op_ne (pe_call gT (hr.mono (by decide)) rfl mT kpT bT .nil pass0 (pa_cons (pe_op op_cat (pv 5) (pe_lst (pa_cons (pv 15) pa_nil))) (pa_cons (pe_ix ix_list (pe_lst (pa_cons pe_int (pa_cons pe_int (pa_cons pe_bl pa_nil)))) (pe_op op_mod (pe_op op_fdiv (pv 2) pe_int) pe_int) (fun _ _ => rfl)) pa_nil))) pe_str (nomark _)) (pss_one (ps_ret pe_bl)) pss_nil)
      (pss_one (ps_ret (pe_cmpR op_eq (pe_call gT (hr.mono (by decide)) rfl mT kpT bT .nil pass0 (pa_cons (pe_op op_cat (pe_op op_cat (pv 5) (pe_lst (pa_cons (pv 15) pa_nil))) (pv 5)) (pa_cons pe_int pa_nil)))
        (pe_ix ix_list (pe_lst (pa_cons pe_str (pa_cons pe_str (pa_cons pe_str pa_nil)))) (pe_op op_mod (pe_op op_fdiv (pv 2) pe_int) pe_int) (fun _ _ => rfl)) (nomark _))))))))))))))))), ?_⟩
    rw [← wLc_eq]
    have big : ∀ n : Nat, n ≤ 1000 → n ≤ sizeLine := fun n h => by rw [sizeLine_eq]; omega
    have mod0 : ∀ (x b : Int), 0 < b → 0 ≤ x % b ∧ x % b < b := fun x b h => ⟨Int.emod_nonneg x (by omega), Int.emod_lt_of_pos x h⟩
    refine sq_any (fun σ' H' => ∃ (nm : List Str) (pn : Addr), σ' = [some (.ref a), some (.ref pn), none, none, none, none, none, none, none, none, none, none, none, none, none, none] ∧ nm.length = 14 ∧ NamesOk nm ∧ Ex H H' ∧ H' pn = some (.lst (nm.map V.str)))
      (fun D' hD => ⟨_, rfl, a, ns, rfl, hS, fun nm pn H1 hnl hnm hpn ex1 e1 => hD _ _ ⟨nm, pn, rfl, hnl, hnm, ex1, e1⟩⟩) ?_
    rintro σ' H1 ⟨nm, pn, rfl, hnl, hnm, ex1, e1⟩
    have hS1 : SqL K H1 a (ns.map V.int) := sql_ex hS ex1
    refine sq_any (fun σ' H' => ∃ m : Int, σ' = [some (.ref a), some (.ref pn), some (.int m), none, none, none, none, none, none, none, none, none, none, none, none, none] ∧ 0 ≤ m ∧ m < 2147483647 ∧ H1 = H')
      (fun D' hD => ⟨_, rfl, a, ns, rfl, hS1, _, 77, rfl, fun m m0 m1 => hD _ _ ⟨m, rfl, m0, m1, rfl⟩⟩) ?_
    rintro σ' _ ⟨m, rfl, m0, m1, rfl⟩
    -- the comings
    refine sq_any (fun σ' H' => ∃ (lc : Addr) (ts : List Addr) (pl : CM), σ' = [some (.ref a), some (.ref pn), some (.int m), none, none, some (.ref lc), none, none, none, none, none, none, none, none, none, none] ∧ Ex H1 H' ∧ H' lc = some (.lst (ts.map V.ref)) ∧ PrsAt H' ts pl ∧ (∀ e ∈ pl, e.1 ∈ nm ∧ isWt e.2 = true) ∧ pl.length ≤ 63) (fun D' hD => ?_) ?_
    · rw [wLc_eq]
      refine ⟨_, rfl, a, ns.map V.int, rfl, hS1, fun L hL => ?_⟩
      refine DK.lc_it (n := ns.length) (fun i H' => ∃ (ts : List Addr) (pl : CM), Ex H1 H' ∧ H' L = some (.lst (ts.map V.ref)) ∧ PrsAt H' ts pl ∧ (∀ e ∈ pl, e.1 ∈ nm ∧ isWt e.2 = true) ∧ pl.length = i)
        ⟨[], [], Evl.Ex.new hL, upd_same, .nil, (fun _ h => nomatch h), rfl⟩ ?_ ?_ ?_ ?_
      · rintro i H6 hi ⟨ts, pl, ex, el, hp, po, pn'⟩
        exact ⟨ns.map V.int, .int ns[i], sql_ex hS1 ex, by rw [List.getElem?_map, List.getElem?_eq_getElem hi]; rfl⟩
      · rintro H6 ⟨ts, pl, ex, el, hp, po, pn'⟩
        exact ⟨ns.map V.int, sql_ex hS1 ex, by rw [List.length_map]; exact Nat.le_refl _⟩
      · rintro i H6 hi ⟨ts, pl, ex, el, hp, po, pn'⟩ x H7 ⟨T1, y, rfl, nT1, rfl, hy⟩
        have ey := hy _ (sql_ex hS1 ex)
        rw [List.getElem?_map, List.getElem?_eq_getElem hi] at ey
        cases ey
        generalize ns[i] = z
        have exA := Evl.Ex.new (o := .tup [.int ((i : Nat) : Int), .int z]) nT1
        refine ⟨T1, _, rfl, SqT.of upd_same, rfl, _, _, rfl, _, _, rfl, rfl, rfl, yes_of ?_⟩
        refine ⟨_, rfl, _, rfl, _, rfl, pn, nm, z, _, rfl, SqL.of ((ex.trans exA) _ _ e1), hnl, fun n wt T2 H8 hn hwt exB nT2 eT2 => ?_⟩
        have exC := exA.trans exB
        have el8 := exC _ _ el
        have offd : Off [L] H8 (upd H8 L (.lst (ts.map V.ref ++ [V.ref T2]))) := Off.upd (List.mem_cons_self ..)
        have T2L : T2 ≠ L := fun h => by rw [h, el8] at eT2; cases eT2
        refine ⟨_, el8, small ?_, ts ++ [T2], pl ++ [(n, wt)], fun b o hb => ?_, ?_, ?_, fun e he => ?_, ?_⟩
        · have := prs_len hp
          rw [List.length_map]
          omega
        · rw [upd_ne (ne_of_none hb hL)]
          exact exC _ _ (ex _ _ hb)
        · rw [upd_same, List.map_append]
          rfl
        · refine prs_snoc (prs_off (prs_ex hp exC) offd fun b hb xs hx => ?_) ?_
          · rw [List.mem_singleton.mp hb, el8] at hx
            cases hx
          · rw [upd_ne T2L]
            exact eT2
        · rcases List.mem_append.mp he with h | h
          · exact po e h
          · rw [List.mem_singleton.mp h]
            exact ⟨hn, hwt⟩
        · rw [List.length_append, pn']
          rfl
      · rintro H6 ⟨ts, pl, ex, el, hp, po, pn'⟩
        exact hD _ _ ⟨L, ts, pl, rfl, ex, el, hp, po, by omega⟩
    rintro σ' H2 ⟨lc, ts, pl, rfl, ex2, elc, hp, po, pl63⟩
    have tl := prs_len hp
    have on : ∀ e ∈ pl, isName e.1 = true := fun e he => hnm.ok _ (po e he).1
    have ok : ∀ e ∈ pl, isName e.1 = true ∧ isWt e.2 = true := fun e he => ⟨on e he, (po e he).2⟩
    have okw : ∀ e ∈ pl, isWt e.2 = true := fun e he => (po e he).2
    -- what is true
    refine sq_any (fun σ' H' => ∃ tr : Addr, σ' = [some (.ref a), some (.ref pn), some (.int m), none, none, some (.ref lc), some (.ref tr), none, none, none, none, none, none, none, none, none] ∧ H2 tr = none ∧ Ex H2 H' ∧ H' tr = some (.dK []))
      (fun D' hD tr htr => hD _ _ ⟨tr, rfl, htr, Evl.Ex.new htr, upd_same⟩) ?_
    rintro σ' H3 ⟨tr, rfl, htr, ex3, etr⟩
    refine sq_any (fun σ' H' => ∃ v7 v8 : Option V, σ' = [some (.ref a), some (.ref pn), some (.int m), none, none, some (.ref lc), some (.ref tr), v7, v8, none, none, none, none, none, none, none] ∧ Ex H2 H' ∧ H' tr = some (.dK (kvc (trueT pl)))) (fun D' hD => ?_) ?_
    · refine ⟨_, rfl, lc, rfl, ⟨_, SqL.of (ex3 _ _ elc)⟩, for_list (K := K) (a := lc) (xs := ts.map V.ref) (fun i σ H' => ∃ v7 v8 : Option V, σ = [some (.ref a), some (.ref pn), some (.int m), none, none, some (.ref lc), some (.ref tr), v7, v8, none, none, none, none, none, none, none] ∧ Ex H2 H' ∧ H' tr = some (.dK (kvc (trueT (pl.take i)))))
        ⟨_, _, rfl, ex3, etr⟩ (fun _ _ _ _ ⟨_, _, _, h, _⟩ => SqL.of (h _ _ elc)) ?_ ?_⟩
      · rintro i x σ H4 hi ⟨v7, v8, rfl, h1, h2⟩
        rw [List.getElem?_map] at hi
        obtain ⟨T1, hT, rfl⟩ : ∃ T1, ts[i]? = some T1 ∧ V.ref T1 = x := by
          cases e : ts[i]? with
          | none => rw [e] at hi; cases hi
          | some T1 => rw [e] at hi; exact ⟨T1, rfl, Option.some.inj hi⟩
        obtain ⟨e, he, hTe⟩ := LiI.paired_get hp hT
        have hTe4 := h1 _ _ hTe
        have tk : pl.take (i + 1) = pl.take i ++ [e] := by
          obtain ⟨hl, rfl⟩ := List.getElem?_eq_some_iff.mp he
          exact List.take_succ_eq_append_getElem hl
        have ln : (trueT (pl.take i)).length ≤ 63 := by
          have := true_len (pl.take i)
          rw [List.length_take] at this
          omega
        refine ⟨T1, _, rfl, SqT.of hTe4, rfl, _, _, rfl, _, _, rfl, rfl, ?_⟩
        refine ⟨_, rfl, tr, rfl, IsD.of (.inl h2), _, rfl, _, DGet.of (.inl h2) e.1, ?_⟩
        rw [getD_map]
        refine ⟨_, rfl, _, _, rfl, rfl, _, rfl, _, rfl, tr, _, rfl, DPut.of h2 e.1 _ (small (by omega)), _, _, rfl, fun b o hb => ?_, ?_⟩
        · rw [upd_ne (ne_of_none hb htr)]
          exact h1 _ _ hb
        · rw [upd_same, tk, true_snoc]
          rfl
      · rintro σ H4 ⟨v7, v8, rfl, h1, h2⟩
        rw [List.length_map, tl, List.take_of_length_le (Nat.le_refl _)] at h2
        exact hD _ _ ⟨v7, v8, rfl, h1, h2⟩
    rintro σ' H4 ⟨v7, v8, rfl, ex4, etr4⟩
    clear etr ex3
    have tlen : (trueT pl).length ≤ 63 := by have := true_len pl; omega
    -- handed
    refine sq_any (fun σ' H' => ∃ hh : Addr, σ' = st9 a pn m lc tr v7 v8 hh none none none none none none ∧ Ex H4 H' ∧ H' hh = some (.lst (ts.map V.ref)))
      (fun D' hD => ⟨_, rfl, lc, _, rfl, .inl (SqL.of (ex4 _ _ elc)), fun hh hhh => hD _ _ ⟨hh, rfl, Evl.Ex.new hhh, upd_same⟩⟩) ?_
    rintro σ' H5 ⟨hh, rfl, ex45, ehh⟩
    have ex5 := ex4.trans ex45
    have elc5 := ex5 _ _ elc
    have hp5 := prs_ex hp ex5
    have etr5 := ex45 _ _ etr4
    have epn5 := (ex2.trans ex5) _ _ e1
    have hS5 := sql_ex hS1 (ex2.trans ex5)
    clear elc hp etr4 ex45 ex4 htr
    have shp : SeqAt.shaped (prsD pl) = true := shaped_prs fun n hn => by
      unfold keysC at hn
      obtain ⟨e, he, rfl⟩ := List.mem_map.mp hn
      exact on e he
    have tkn : ∀ n ∈ keysC (trueT pl), isName n = true := fun n hn => by
      obtain ⟨e, he, rfl⟩ := true_keys hn
      exact on e he
    -- three numbers of drawers
    refine sq_any (fun σ' H' => ∃ v7 v8 v10 v11 : Option V, σ' = st9 a pn m lc tr v7 v8 hh v10 v11 none none none none ∧ Ex H5 H') (fun D' hD => ?_) ?_
    · refine ⟨_, rfl, a, ns, rfl, hS5, fun r H6 r1 r2 ex6 => ⟨_, rfl, _, _, rfl, rfl, (by show (0 : Int) < _; decide), _, _, rfl, rfl, big 3 (by decide), fun T1 hT1 => ?_⟩⟩
      have h50 := mod0 m 50 (by decide)
      refine ⟨T1, rfl, ⟨_, SqT.of upd_same⟩, for_tup (K := K) (a := T1) (xs := [.int r, .int (1 + m % 50), .int 1]) (fun i σ H' => ∃ v7 v8 v10 v11 : Option V, σ = st9 a pn m lc tr v7 v8 hh v10 v11 none none none none ∧ Ex H5 H' ∧ H' T1 = some (.tup [.int r, .int (1 + m % 50), .int 1]))
        ⟨_, _, _, _, rfl, ex6.trans (Evl.Ex.new hT1), upd_same⟩ (fun _ _ _ _ ⟨_, _, _, _, _, _, h⟩ => SqT.of h) ?_ ?_⟩
      · rintro i x σ H7 hi ⟨v7, v8, v10, v11, rfl, ex7, eT7⟩
        obtain ⟨rr, rfl, rr1, rr2⟩ : ∃ rr : Int, x = .int rr ∧ 1 ≤ rr ∧ rr ≤ 50 := by
          have hm := List.mem_of_getElem? hi
          simp only [List.mem_cons, List.not_mem_nil, or_false] at hm
          rcases hm with rfl | rfl | rfl
          · exact ⟨_, rfl, r1, r2⟩
          · exact ⟨_, rfl, by omega, by omega⟩
          · exact ⟨_, rfl, by decide, by decide⟩
        have hv := heavy_true rr1 okw
        generalize hdue : ((sortS (keysC (trueT pl))).filter fun n => decide (sumC (trueT pl) < getD0 (trueT pl) n * (rr + 1))) = due at hv
        have dkn : ∀ n ∈ due, isName n = true := fun n hn => by
          rw [← hdue] at hn
          exact tkn n ((sortS_perm _).mem_iff.mp (List.mem_filter.mp hn).1)
        have shd := shaped_strs dkn
        refine sq_any (fun σ' H' => ∃ du : Addr, σ' = st9 a pn m lc tr v7 v8 hh (some (.int rr)) (some (.ref du)) none none none none ∧ Ex H7 H' ∧ H' du = some (.lst (due.map V.str))) (fun D' hD => ?_) ?_
        · have etr7 := ex7 _ _ etr5
          refine strs_reads (K := K) (xs := sortS (keysC (trueT pl))) (fun n => decide (sumC (trueT pl) < getD0 (trueT pl) n * (rr + 1))) ?_ (fun R hR => ?_) (fun _ => rfl) (fun _ => rfl) (fun n H' Qb hn ex hQ => ?_) (fun H' du ex edu => ?_)
          · rw [(sortS_perm _).length_eq]
            unfold keysC
            rw [List.length_map]
            omega
          · refine ⟨_, rfl, tr, kvc (trueT pl), keysC (trueT pl), rfl, .inl etr7, (by rw [keys_kvc]; unfold keysC; rw [List.map_map]; rfl), (by unfold keysC; rw [List.length_map]; omega), fun ys ls pm srt hls => ?_⟩
            have eys : ys = sortS (keysC (trueT pl)) := sortS_eq pm (sortedS_pw srt)
            subst eys
            exact hR _ _ (Evl.Ex.new hls) upd_same
          · have hn' := (sortS_perm _).mem_iff.mp hn
            have etr8 := ex _ _ etr7
            have dg := DGet.of (.inl etr8 : Rd H' tr (.dK (kvc (trueT pl)))) n
            obtain ⟨v, hv1, hv2⟩ := has_pos (run_bnd rr1 okw).post hn'
            have g0 : getD0 (trueT pl) n = v := by unfold getD0; rw [hv1]; rfl
            rw [hv1] at dg
            rw [g0] at hQ
            refine ⟨_, rfl, _, rfl, tr, _, rfl, dg, _, rfl, _, _, rfl, rfl, _, _, rfl, rfl, .inr ⟨by omega, by omega⟩, _, rfl, (.inr (.inr (.inl ⟨rfl, .inl ⟨_, etr8⟩⟩))), tr, _, rfl, rfl, etr8, fun vw hvw => ?_⟩
            have exv := Evl.Ex.new (o := viewV vw tr) hvw
            exact ⟨vw, tr, _, _, rfl, upd_same, exv _ _ etr8, snd_kvc _, _, _, rfl, rfl, _, rfl, hQ _ exv⟩
          · rw [hdue] at edu
            exact hD _ _ ⟨du, rfl, ex, edu⟩
        rintro σ' H8 ⟨du, rfl, ex78, edu⟩
        have ex8 := ex7.trans ex78
        refine ⟨_, rfl, _, rfl, hh, ts, vpr pl, .int rr, rfl, cms_pl (SqL.of (ex8 _ _ ehh)) (prs_ex hp5 ex8) on, fun _ => thing_int rr, fun h => absurd (h.symm.trans (show isRoomV (.int rr) = true from decide_eq_true ⟨rr1, rr2⟩)) (by decide), fun r' er h1 h2 => ?_⟩
        cases er
        refine ⟨none, pl, .all rfl ok, fun _ H9 qq L ex9 hL eq => ?_, (fun h => nomatch h), (fun h => nomatch h)⟩
        have eL : L = due := heavy_uniq hL hv
        subst eL
        refine ⟨_, rfl, strsD L, strsD L, dp_strs eq, dp_strs (ex9 _ _ edu), shd, shd, _, rfl, ?_⟩
        rw [eqv_shaped shd]
        refine iteF ?_
        refine ⟨_, rfl, _, rfl, prsD pl, prsD pl, dp_prs ((ex8.trans ex9) _ _ ehh) (prs_ex hp5 (ex8.trans ex9)), dp_prs ((ex8.trans ex9) _ _ elc5) (prs_ex hp5 (ex8.trans ex9)), shp, shp, _, rfl, ?_⟩
        rw [eqv_shaped shp]
        exact iteF ⟨_, _, _, _, rfl, ex8.trans ex9, (ex78.trans ex9) _ _ eT7⟩
      · rintro σ H7 ⟨v7, v8, v10, v11, rfl, ex7, _⟩
        exact hD _ _ ⟨_, _, _, _, rfl, ex7⟩
    rintro σ' H6 ⟨w7, w8, v10, v11, rfl, ex6⟩
    clear v7 v8
    have epn6 := ex6 _ _ epn5
    -- so many names
    obtain ⟨s, hs, s1, s2⟩ : ∃ s : Nat, 1 + m / 450 % 13 = (s : Int) ∧ 1 ≤ s ∧ s ≤ 13 := by
      have h := mod0 (m / 450) 13 (by decide)
      exact ⟨(1 + m / 450 % 13).toNat, by omega, by omega, by omega⟩
    refine sq_any (fun σ' H' => σ' = st9 a pn m lc tr w7 w8 hh v10 v11 (some (.int s)) none none none ∧ H6 = H')
      (fun D' hD => ⟨_, rfl, _, _, rfl, rfl, ⟨by decide, by decide⟩, _, _, rfl, rfl, (by show (0 : Int) < _; decide), _, _, rfl, rfl, hD _ _ ⟨by rw [← hs]; rfl, rfl⟩⟩) ?_
    rintro σ' _ ⟨rfl, rfl⟩
    have mm0 : (0 : Int) ≤ m * m := Int.mul_nonneg m0 m0
    have mmL : m * m ≤ great := by
      have h1 : m * m ≤ 2147483647 * 2147483647 := Int.mul_le_mul (by omega) (by omega) m0 (by decide)
      have h2 : (2147483647 * 2147483647 : Int) ≤ great - 1 := by decide
      omega
    have mmL1 : m * m + 1 ≤ great := by
      have h1 : m * m ≤ 2147483647 * 2147483647 := Int.mul_le_mul (by omega) (by omega) m0 (by decide)
      have h2 : (2147483647 * 2147483647 : Int) ≤ great - 1 := by decide
      omega
    have tks : (nm.take (s + 1)).length = s + 1 := by rw [List.length_take]; omega
    have tkn2 : (nm.take (s + 1)).Nodup := (List.take_sublist _ _).nodup hnm.nd
    refine sq_any (fun σ' H' => ∃ (ev : Addr) (te : List Addr), σ' = st9 a pn m lc tr w7 w8 hh v10 v11 (some (.int s)) (some (.ref ev)) none none ∧ Ex H6 H' ∧ H' ev = some (.lst (te.map V.ref)) ∧ PrsAt H' te ((nm.take (s + 1)).map fun x => (x, 1 + m * m))) (fun D' hD => ?_) ?_
    · refine even_reads (K := K) (xs := nm.take (s + 1)) (W := 1 + m * m) (by omega) (fun R hR => ?_) (fun _ => rfl) (fun n H' R hn hR => ?_) (fun H' r ts2 ex er hp2 => hD _ _ ⟨r, ts2, rfl, ex, er, hp2⟩)
      · refine ⟨_, rfl, _, rfl, _, _, rfl, rfl, _, rfl, pn, _, rfl, SqL.of epn6, fun l hl => hR _ _ (Evl.Ex.new hl) ?_⟩
        rw [upd_same, show ((s : Int) + 1) = ((s + 1 : Nat) : Int) from rfl, cut_toV _ _ (by rw [List.length_map]; omega), List.map_take]
      · refine ⟨_, rfl, _, rfl, _, rfl, _, _, rfl, rfl, .inl ⟨by omega, by omega⟩, _, _, rfl, rfl, big 2 (by decide), fun t ht => hR t ht⟩
    rintro σ' H7 ⟨ev, te, rfl, ex67, eev, hpe⟩
    have epn7 := ex67 _ _ epn6
    obtain ⟨xs, hxs⟩ : ∃ x, nm[s]? = some x := ⟨nm[s]'(by omega), List.getElem?_eq_getElem (by omega)⟩
    have xm : xs ∈ nm := List.mem_of_getElem? hxs
    have xtk : xs ∈ nm.take (s + 1) := List.mem_of_getElem? (i := s) (by rw [List.getElem?_take, if_pos (by omega)]; exact hxs)
    have nmx : (nm.map V.str)[s]? = some (V.str xs) := by rw [List.getElem?_map, hxs]; rfl
    have one1 : isWt 1 = true := by decide +kernel
    have wtW : isWt (1 + m * m) = true := decide_eq_true ⟨by omega, by omega⟩
    have oke : ∀ e ∈ (nm.take (s + 1)).map (fun x => (x, 1 + m * m)), isName e.1 = true ∧ isWt e.2 = true := fun e he => by
      obtain ⟨x, hx, rfl⟩ := List.mem_map.mp he
      exact ⟨hnm.ok x (List.mem_of_mem_take hx), wtW⟩
    have room : ∀ {u : Int}, 1 ≤ u → u ≤ 50 → isRoomV (.int u) = false → False := fun h1 h2 h => absurd (h.symm.trans (show isRoomV (.int _) = true from decide_eq_true ⟨h1, h2⟩)) (by decide)
    have sh0 : SeqAt.shaped (strsD []) = true := rfl
    have shx : SeqAt.shaped (strsD [xs]) = true := shaped_strs fun n hn => by rw [List.mem_singleton.mp hn]; exact hnm.ok xs xm
    refine sq_if (fun H' => Ex H7 H') (fun Q' hQ => ?_) ?_
    · refine ⟨_, rfl, _, rfl, ev, te, vpr ((nm.take (s + 1)).map fun x => (x, 1 + m * m)), .int s, rfl, cms_pl (SqL.of eev) hpe (fun e he => (oke e he).1), fun _ => thing_int _, fun h => (room (by omega) (by omega) h).elim, fun r' er h1 h2 => ?_⟩
      cases er
      refine ⟨none, _, .all rfl oke, fun _ H8 qq L ex8 hL eq => ?_, (fun h => nomatch h), (fun h => nomatch h)⟩
      have eL : L = [] := even_none tkn2 (by omega) (by rw [tks]; rfl) hL
      subst eL
      refine ⟨Nat.zero_le _, fun l0 hl0 => ?_⟩
      have x0 := Evl.Ex.new (o := .lst []) hl0
      refine ⟨strsD [], strsD [], dp_strs (l := []) (x0 _ _ eq), dp_strs (l := []) upd_same, sh0, sh0, _, rfl, ?_⟩
      rw [eqv_shaped sh0]
      refine iteF ?_
      have exB := ex8.trans x0
      refine ⟨_, rfl, _, rfl, _, rfl, pn, _, _, _, rfl, rfl, SqL.of (exB _ _ epn7), atI_nat nmx, big 2 (by decide), fun T2 hT2 => ?_⟩
      have x2 := Evl.Ex.new (o := .tup [.str xs, .int 1]) hT2
      refine ⟨big 1 (by decide), fun l2 hl2 => ?_⟩
      have x3 := Evl.Ex.new (o := .lst [.ref T2]) hl2
      have exC := exB.trans (x2.trans x3)
      refine ⟨ev, l2, _, _, rfl, rfl, exC _ _ eev, upd_same, big _ ?_, fun l3 hl3 => ?_⟩
      · have := prs_len hpe
        rw [List.length_map, tks] at this
        rw [List.length_map]
        show te.length + 1 ≤ 1000
        omega
      have x4 := Evl.Ex.new (o := .lst (te.map V.ref ++ [.ref T2])) hl3
      have exD := exC.trans x4
      have hpD : PrsAt _ (te ++ [T2]) ((nm.take (s + 1)).map (fun x => (x, 1 + m * m)) ++ [(xs, 1)]) := prs_snoc (e := (xs, 1)) (prs_ex hpe exD) (x4 _ _ (x3 _ _ upd_same))
      have okD : ∀ e ∈ (nm.take (s + 1)).map (fun x => (x, 1 + m * m)) ++ [(xs, 1)], isName e.1 = true ∧ isWt e.2 = true := fun e he => by
        rcases List.mem_append.mp he with h | h
        · exact oke e h
        · rw [List.mem_singleton.mp h]
          exact ⟨hnm.ok xs xm, one1⟩
      have eL3 : (upd (upd (upd (upd H8 l0 (.lst [])) T2 (.tup [.str xs, .int 1])) l2 (.lst [.ref T2])) l3 (.lst (te.map V.ref ++ [.ref T2]))) l3 = some (.lst ((te ++ [T2]).map V.ref)) := by
        rw [upd_same, List.map_append]
        rfl
      refine ⟨_, rfl, l3, te ++ [T2], vpr ((nm.take (s + 1)).map (fun x => (x, 1 + m * m)) ++ [(xs, 1)]), .int s, rfl, cms_pl (SqL.of eL3) hpD (fun e he => (okD e he).1), fun _ => thing_int _, fun h => (room (by omega) (by omega) h).elim, fun r' er h1 h2 => ?_⟩
      cases er
      refine ⟨none, _, .all rfl okD, fun _ H9 qq L ex9 hL eq => ?_, (fun h => nomatch h), (fun h => nomatch h)⟩
      have eL : L = [xs] := even_one tkn2 xtk (by omega) (by rw [tks]; rfl) (by omega) hL
      subst eL
      have exE := exD.trans ex9
      refine ⟨_, rfl, _, rfl, pn, _, _, _, rfl, rfl, SqL.of (exE _ _ epn7), atI_nat nmx, big 1 (by decide), fun l5 hl5 => ?_⟩
      have x5 := Evl.Ex.new (o := .lst [.str xs]) hl5
      refine ⟨strsD [xs], strsD [xs], dp_strs (l := [xs]) (x5 _ _ eq), dp_strs (l := [xs]) upd_same, shx, shx, _, rfl, ?_⟩
      rw [eqv_shaped shx]
      exact hQ _ (exE.trans x5)
    intro H8 ex78
    have epn8 := ex78 _ _ epn7
    have nmi : ∀ i : Nat, i < 14 → ∃ n : Str, nm[i]? = some n ∧ n ∈ nm ∧ (nm.map V.str)[i]? = some (V.str n) := fun i hi => ⟨nm[i]'(by omega), List.getElem?_eq_getElem (by omega), List.getElem_mem _, by rw [List.getElem?_map, List.getElem?_eq_getElem (by omega)]; rfl⟩
    obtain ⟨n0, i0, m0', g0⟩ := nmi 0 (by decide)
    obtain ⟨n1, i1, m1', g1⟩ := nmi 1 (by decide)
    have n01 : n0 ≠ n1 := fun z => by
      have h0 : 0 < nm.length := by omega
      have h1 : 1 < nm.length := by omega
      have e0 := (List.getElem?_eq_some_iff.mp i0).2
      have e1 := (List.getElem?_eq_some_iff.mp i1).2
      have := (List.getElem_inj (h₀ := h0) (h₁ := h1) hnm.nd).mp (e0.trans (z.trans e1.symm))
      cases this
    have us : (0 : Int) ≤ (1 + m) * s := Int.mul_nonneg (by omega) (by omega)
    have us1 : (1 : Int) ≤ (1 + m) * s := by
      have := Int.mul_le_mul (a := 1) (b := 1) (c := 1 + m) (d := s) (by omega) (by omega) (by decide) (by omega)
      omega
    have us2 : (1 + m) * s ≤ great := by
      have h1 : (1 + m) * s ≤ 2147483648 * 13 := Int.mul_le_mul (by omega) (by omega) (by omega) (by decide)
      have h2 : (2147483648 * 13 : Int) ≤ great := by decide
      omega
    have um2 : 1 + m ≤ great := by
      have h2 : (2147483648 : Int) ≤ great := by decide
      omega
    -- just as much
    refine sq_any (fun σ' H' => ∃ (ju : Addr) (tj : List Addr), σ' = st9 a pn m lc tr w7 w8 hh v10 v11 (some (.int s)) (some (.ref ev)) (some (.ref ju)) none ∧ Ex H8 H' ∧ H' ju = some (.lst (tj.map V.ref)) ∧ PrsAt H' tj [(n0, 1 + m), (n1, (1 + m) * s)]) (fun D' hD => ?_) ?_
    · refine ⟨_, rfl, pn, _, 0, _, rfl, rfl, SqL.of epn8, atI_nat (j := 0) g0, _, rfl, _, _, rfl, rfl, big 2 (by decide), fun t1 ht1 => ?_⟩
      have x1 := Evl.Ex.new (o := .tup [.str n0, .int (1 + m)]) ht1
      refine ⟨_, rfl, pn, _, 1, _, rfl, rfl, SqL.of (x1 _ _ epn8), atI_nat (j := 1) g1, _, rfl, _, _, rfl, rfl, _, rfl, _, _, rfl, rfl, .inl ⟨by omega, by omega⟩, big 2 (by decide), fun t2 ht2 => ?_⟩
      have x2 := Evl.Ex.new (o := .tup [.str n1, .int ((1 + m) * s)]) ht2
      refine ⟨big 2 (by decide), fun l hl => hD _ _ ⟨l, [t1, t2], rfl, (x1.trans x2).trans (Evl.Ex.new hl), upd_same, ?_⟩⟩
      have x3 := Evl.Ex.new (o := .lst [.ref t1, .ref t2]) hl
      exact .cons (x3 _ _ (x2 _ _ upd_same)) (.cons (x3 _ _ upd_same) .nil)
    rintro σ' H9 ⟨ju, tj, rfl, ex89, eju, hpj⟩
    have epn9 := ex89 _ _ epn8
    have okj : ∀ e ∈ ([(n0, 1 + m), (n1, (1 + m) * s)] : CM), isName e.1 = true ∧ isWt e.2 = true := fun e he => by
      simp only [List.mem_cons, List.not_mem_nil, or_false] at he
      rcases he with rfl | rfl
      · exact ⟨hnm.ok _ m0', decide_eq_true ⟨by omega, um2⟩⟩
      · exact ⟨hnm.ok _ m1', decide_eq_true ⟨us1, us2⟩⟩
    refine sq_if (fun H' => Ex H9 H') (fun Q' hQ => ?_) ?_
    · refine ⟨_, rfl, _, rfl, ju, tj, vpr [(n0, 1 + m), (n1, (1 + m) * s)], .int s, rfl, cms_pl (SqL.of eju) hpj (fun e he => (okj e he).1), fun _ => thing_int _, fun h => (room (by omega) (by omega) h).elim, fun r' er h1 h2 => ?_⟩
      cases er
      refine ⟨none, _, .all rfl okj, fun _ H10 qq L ex10 hL eq => ?_, (fun h => nomatch h), (fun h => nomatch h)⟩
      have eL := just_heavy n01 (by omega) (by omega) hL
      have exE := ex89.trans ex10
      refine ⟨_, rfl, pn, _, 1, _, rfl, rfl, SqL.of (exE _ _ epn8), atI_nat (j := 1) g1, big 1 (by decide), fun l5 hl5 => ?_⟩
      have x5 := Evl.Ex.new (o := .lst [.str n1]) hl5
      refine ⟨_, rfl, _, _, rfl, rfl, _, rfl, l5, _, rfl, SqL.of upd_same, fun l6 hl6 => ?_⟩
      have x6 := Evl.Ex.new (o := .lst (cutV [.str n1] none (some ((s : Int) - 1)))) hl6
      have ecut : cutV [.str n1] none (some ((s : Int) - 1)) = L.map V.str := by
        rw [eL]
        by_cases h : s = 1
        · subst h
          rw [if_pos (show ((1 : Nat) : Int) = 1 from rfl)]
          exact cut_toV [.str n1] 0 (Nat.zero_le _)
        · rw [if_neg (by omega)]
          have e : ((s : Int) - 1) = ((s - 1 : Nat) : Int) := by omega
          unfold cutV
          rw [HT.sIx_none, e, HT.sIx_nat, Nat.min_eq_right (show [V.str n1].length ≤ s - 1 by show 1 ≤ s - 1; omega)]
          rfl
      have shL : SeqAt.shaped (strsD L) = true := shaped_strs fun n hn => by
        rw [eL] at hn
        split at hn
        · cases hn
        · rw [List.mem_singleton.mp hn]
          exact hnm.ok _ m1'
      refine ⟨strsD L, strsD L, dp_strs (x6 _ _ (x5 _ _ eq)), dp_strs (by rw [upd_same, ecut]), shL, shL, _, rfl, ?_⟩
      rw [eqv_shaped shL]
      exact hQ _ ((ex10.trans x5).trans x6)
    intro H10 ex910
    have epn10 := ex910 _ _ epn9
    have two : 2 ≤ sizeLine := big 2 (by decide)
    have three : 3 ≤ sizeLine := big 3 (by decide)
    obtain ⟨j, hj, hj3⟩ : ∃ j : Nat, m / 50 % 3 = (j : Int) ∧ j < 3 := by
      have h := mod0 (m / 50) 3 (by decide)
      exact ⟨(m / 50 % 3).toNat, by omega, by omega⟩
    -- a wrong one
    refine sq_any (fun σ' H' => ∃ (wr : Addr) (x : V × V) (b : Bool), σ' = st9 a pn m lc tr w7 w8 hh v10 v11 (some (.int s)) (some (.ref ev)) (some (.ref ju)) (some (.ref wr)) ∧ Ex H10 H' ∧ H' wr = some (.tup [x.1, x.2]) ∧
        ((b = true ∧ isNameV x.1 = false) ∨ (b = false ∧ isNameV x.1 = true ∧ isWtV x.2 = false)) ∧ (∀ H'' : Hp, Thing K H'' x.1 ∧ Thing K H'' x.2) ∧ (∀ z, x.1 = V.str z → z.length ≤ sizeLine) ∧
        ([.str "name", .str "weight", .str "weight"] : List V)[j]? = some (.str (if b then "name" else "weight"))) (fun D' hD => ?_) ?_
    · refine ⟨two, fun T1 h1 => ?_⟩
      have x1 := Evl.Ex.new (o := .tup [.str "a1", .int 0]) h1
      refine ⟨_, rfl, pn, _, 0, _, rfl, rfl, SqL.of (x1 _ _ epn10), atI_nat (j := 0) g0, two, fun T3 h3 => ?_⟩
      have x3 := Evl.Ex.new (o := .tup [.str n0, .int 0]) h3
      refine ⟨_, rfl, pn, _, 1, _, rfl, rfl, SqL.of (x3 _ _ (x1 _ _ epn10)), atI_nat (j := 1) g1, two, fun T4 h4 => ?_⟩
      have x4 := Evl.Ex.new (o := .tup [.str n1, .non]) h4
      refine ⟨three, fun l hl => ?_⟩
      have x6 := Evl.Ex.new (o := .lst [.ref T1, .ref T3, .ref T4]) hl
      refine ⟨_, rfl, _, _, rfl, rfl, ⟨by decide, by decide⟩, _, _, rfl, rfl, (by show (0 : Int) < _; decide), ?_⟩
      have exA := (((x1.trans x3).trans x4).trans x6)
      have no1 : isNameV (.str "a1") = false := by decide +kernel
      have sz1 : ("a1" : Str).length ≤ sizeLine := big _ (by decide +kernel)
      have hjs : j = 0 ∨ j = 1 ∨ j = 2 := by omega
      rcases hjs with rfl | rfl | rfl
      · exact ⟨l, _, _, .ref T1, rfl, congrArg V.int hj, SqL.of upd_same, atI_nat (j := 0) rfl, hD _ _ ⟨T1, (.str "a1", .int 0), true, rfl, exA, ((x3.trans x4).trans x6) _ _ upd_same, .inl ⟨rfl, no1⟩, fun _ => ⟨thing_str _, thing_int _⟩, fun z e => by cases e; exact sz1, rfl⟩⟩
      · exact ⟨l, _, _, .ref T3, rfl, congrArg V.int hj, SqL.of upd_same, atI_nat (j := 1) rfl, hD _ _ ⟨T3, (.str n0, .int 0), false, rfl, exA, (x4.trans x6) _ _ upd_same, .inr ⟨rfl, hnm.ok n0 m0', (show isWt 0 = false by decide +kernel)⟩, fun _ => ⟨thing_str _, thing_int _⟩, fun z e => by cases e; exact name_size (hnm.ok n0 m0'), rfl⟩⟩
      · exact ⟨l, _, _, .ref T4, rfl, congrArg V.int hj, SqL.of upd_same, atI_nat (j := 2) rfl, hD _ _ ⟨T4, (.str n1, .non), false, rfl, exA, x6 _ _ upd_same, .inr ⟨rfl, hnm.ok n1 m1', rfl⟩, fun _ => ⟨thing_str _, thing_non⟩, fun z e => by cases e; exact name_size (hnm.ok n1 m1'), rfl⟩⟩
    rintro σ' H11 ⟨wr, x, b, rfl, ex1011, ewr, bad, th, sz, wd⟩
    have ex11 : Ex H5 H11 := ((((ex6.trans ex67).trans ex78).trans ex89).trans ex910).trans ex1011
    have mkM : ∀ (H' : Hp) (l : Addr) (rest : CM) (tr2 : List Addr), Ex H11 H' → (∀ e ∈ rest, e ∈ pl) → PrsAt H' tr2 rest → H' l = some (.lst ((ts ++ [wr] ++ tr2).map V.ref)) → Cms K H' l (ts ++ [wr] ++ tr2) (vpr pl ++ [x] ++ vpr rest) := by
      intro H' l rest tr2 ex hre hpr el
      have hpZ := prs_ex hp5 (ex11.trans ex)
      have onr : ∀ e ∈ rest, isName e.1 = true := fun e he => on e (hre e he)
      have M1 := cms_pl (K := K) (l := lc) (SqL.of ((ex11.trans ex) _ _ elc5)) hpZ on
      refine ⟨SqL.of el, vs_app (vs_app (vs_prs hpZ) (.cons (ex _ _ ewr) .nil)) (vs_prs hpr), fun e he H' => ?_, fun e he => ?_⟩
      · rcases List.mem_append.mp he with he | he
        · rcases List.mem_append.mp he with he | he
          · exact M1.th e he H'
          · rw [List.mem_singleton.mp he]
            exact th H'
        · unfold vpr at he
          obtain ⟨y, hy, rfl⟩ := List.mem_map.mp he
          exact ⟨thing_str _, thing_int _⟩
      · rcases List.mem_append.mp he with he | he
        · rcases List.mem_append.mp he with he | he
          · exact M1.sz e he
          · rw [List.mem_singleton.mp he]
            exact sz
        · unfold vpr at he
          obtain ⟨y, hy, rfl⟩ := List.mem_map.mp he
          intro z hz
          cases hz
          exact name_size (onr y hy)
    have cat1 : ∀ n : Nat, n ≤ 1000 → n ≤ sizeLine := big
    -- no such number of drawers
    refine sq_if (fun H' => Ex H11 H') (fun Q' hQ => ?_) ?_
    · refine ⟨_, rfl, _, rfl, big 1 (by decide), fun l2 hl2 => ?_⟩
      have y2 := Evl.Ex.new (o := .lst [.ref wr]) hl2
      refine ⟨lc, l2, _, _, rfl, rfl, y2 _ _ (ex11 _ _ elc5), upd_same, big _ ?_, fun l3 hl3 => ?_⟩
      · rw [List.length_map]
        show ts.length + 1 ≤ 1000
        omega
      have y3 := y2.trans (Evl.Ex.new (o := .lst (ts.map V.ref ++ [.ref wr])) hl3)
      refine ⟨three, fun l4 hl4 => ?_⟩
      have y4 := y3.trans (Evl.Ex.new (o := .lst [.int 0, .int 51, .bl true]) hl4)
      refine ⟨_, rfl, _, _, rfl, rfl, ⟨by decide, by decide⟩, _, _, rfl, rfl, (by show (0 : Int) < _; decide), pick_reads upd_same (mod0 _ 3 (by decide)).1 (mod0 _ 3 (by decide)).2 fun v hv => ?_⟩
      have badr : (∀ H' : Hp, Thing K H' v) ∧ isRoomV v = false := by
        simp only [List.mem_cons, List.not_mem_nil, or_false] at hv
        rcases hv with rfl | rfl | rfl
        · exact ⟨fun _ => thing_int _, rfl⟩
        · exact ⟨fun _ => thing_int _, rfl⟩
        · exact ⟨fun _ => thing_bl _, rfl⟩
      have eL3 : (upd (upd (upd H11 l2 (.lst [.ref wr])) l3 (.lst (ts.map V.ref ++ [.ref wr]))) l4 (.lst [.int 0, .int 51, .bl true])) l3 = some (.lst ((ts ++ [wr] ++ []).map V.ref)) := by
        rw [upd_ne (ne_of_none upd_same hl4), upd_same, List.append_nil, List.map_append]
        rfl
      refine ⟨l3, _, _, v, rfl, mkM _ l3 [] [] y4 (fun _ h => nomatch h) .nil eL3, badr.1, fun _ H12 ex12 => ?_, fun r' er h1 h2 => ?_⟩
      · exact ⟨rfl, _, rfl, hQ _ (y4.trans ex12)⟩
      · have h := badr.2
        rw [er, show isRoomV (.int r') = true from decide_eq_true ⟨h1, h2⟩] at h
        cases h
    intro H12 ex1112
    -- the first wrong one
    refine ⟨_, rfl, _, rfl, big 1 (by decide), fun l2 hl2 => ?_⟩
    have y2 := Evl.Ex.new (o := .lst [.ref wr]) hl2
    have elc12 := (ex11.trans ex1112) _ _ elc5
    refine ⟨lc, l2, _, _, rfl, rfl, y2 _ _ elc12, upd_same, big _ ?_, fun l3 hl3 => ?_⟩
    · rw [List.length_map]
      show ts.length + 1 ≤ 1000
      omega
    have y3 := y2.trans (Evl.Ex.new (o := .lst (ts.map V.ref ++ [.ref wr])) hl3)
    refine ⟨_, rfl, l3, lc, _, _, rfl, rfl, upd_same, y3 _ _ elc12, big _ ?_, fun l4 hl4 => ?_⟩
    · rw [List.length_append, List.length_map]
      show ts.length + 1 + ts.length ≤ 1000
      omega
    have y4 := y3.trans (Evl.Ex.new (o := .lst (ts.map V.ref ++ [.ref wr] ++ ts.map V.ref)) hl4)
    have eL : (upd (upd (upd H12 l2 (.lst [.ref wr])) l3 (.lst (ts.map V.ref ++ [.ref wr]))) l4 (.lst (ts.map V.ref ++ [.ref wr] ++ ts.map V.ref))) l4 = some (.lst ((ts ++ [wr] ++ ts).map V.ref)) := by
      rw [upd_same, List.map_append, List.map_append]
      rfl
    have eqx : vpr pl ++ [x] ++ vpr pl = vpr pl ++ x :: vpr pl := by rw [List.append_assoc]; rfl
    refine ⟨l4, ts ++ [wr] ++ ts, vpr pl ++ [x] ++ vpr pl, .int 3, rfl, mkM _ l4 pl ts (ex1112.trans y4) (fun _ h => h) (prs_ex hp5 ((ex11.trans ex1112).trans y4)) eL, fun _ => thing_int _, fun h => (room (by decide) (by decide) h).elim, fun r' er h1 h2 => ?_⟩
    cases er
    have tail : ∀ (H' : Hp) (wd' : Str), ([.str "name", .str "weight", .str "weight"] : List V)[j]? = some (.str wd') → ∀ (R : VK), (∀ H'' : Hp, R (.bl true) H'') → tOp rEq (tC (.str wd')) (tOp (rIxL K) (tLst (tCons (tC (.str "name")) (tCons (tC (.str "weight")) (tCons (tC (.str "weight")) tNil)))) (tOp (rI (fun _ j => 0 < j) fun i j => .int (i % j)) (tOp (rI CDiv fun i j => .int (i / j)) (tVar 2) (tC (.int 50))) (tC (.int 3)))) (st9 a pn m lc tr w7 w8 hh v10 v11 (some (.int s)) (some (.ref ev)) (some (.ref ju)) (some (.ref wr))) H' R := by
      intro H' wd' hwd R hR
      refine ⟨three, fun l5 hl5 => ⟨_, rfl, _, _, rfl, rfl, ⟨by decide, by decide⟩, _, _, rfl, rfl, (by show (0 : Int) < _; decide), l5, _, _, _, rfl, congrArg V.int hj, SqL.of upd_same, atI_nat hwd, rfl, ?_⟩⟩
      rw [decide_eq_true rfl]
      exact hR _
    refine ⟨some b, pl, ?_, (fun h => nomatch h), fun h H' _ => ?_, fun h H' _ => ?_⟩
    · rcases bad with ⟨rfl, h⟩ | ⟨rfl, h, h2⟩
      · exact .nam eqx ok h
      · exact .wgt eqx ok h h2
    · have hb : b = true := Option.some.inj h
      subst hb
      exact tail H' "name" wd _ q
    · have hb : b = false := Option.some.inj h
      subst hb
      exact tail H' "weight" wd _ q
end
/-! ### what the top has written, each a fact that k_is finds, and the law over it -/
theorem all_mk {l : PySem.W.OpenLaw} {w : World} {K : PySem.W.Frag} {h : Heap} {mg : Str → Option Value} {fa C fIsWhole fIsName fNeedComing fNeedDrawers fLowered fDCome fDShown fDLost fDWeight fDDrawers fLMixed fLNames fLDrawers fLComing fLWord fCounted fHeavy fLTold fDInit fLaw CN CW CD CQ CP CT CE tD : Addr} (X : K.In h) (G : h.Ns mainGlobals mg) (hfa : mg "law" = some (.ref fa))
    {odIsWhole anIsWhole odIsName anIsName odNeedComing anNeedComing odNeedDrawers anNeedDrawers odLowered anLowered odDCome anDCome odDShown anDShown odDLost anDLost odDWeight anDWeight odDDrawers anDDrawers odLMixed anLMixed odLNames anLNames odLDrawers anLDrawers odLComing anLComing odLWord anLWord odCounted anCounted odHeavy anHeavy odLTold anLTold odDInit anDInit odLaw anLaw odT : Option Addr} {slIsWhole slIsName slNeedComing slNeedDrawers slLowered slDCome slDShown slDLost slDWeight slDDrawers slLMixed slLNames slLDrawers slLComing slLWord slCounted slHeavy slLTold slDInit slLaw slT : Array (Option Value)} {ocIsWhole kVIsWhole dcIsWhole pmIsWhole cdIsWhole ctIsWhole ocIsName kVIsName dcIsName pmIsName cdIsName ctIsName ocNeedComing kVNeedComing dcNeedComing pmNeedComing cdNeedComing ctNeedComing ocNeedDrawers kVNeedDrawers dcNeedDrawers pmNeedDrawers cdNeedDrawers ctNeedDrawers ocLowered kVLowered dcLowered pmLowered cdLowered ctLowered ocDCome kVDCome dcDCome pmDCome cdDCome ctDCome ocDShown kVDShown dcDShown pmDShown cdDShown ctDShown ocDLost kVDLost dcDLost pmDLost cdDLost ctDLost ocDWeight kVDWeight dcDWeight pmDWeight cdDWeight ctDWeight ocDDrawers kVDDrawers dcDDrawers pmDDrawers cdDDrawers ctDDrawers ocLMixed kVLMixed dcLMixed pmLMixed cdLMixed ctLMixed ocLNames kVLNames dcLNames pmLNames cdLNames ctLNames ocLDrawers kVLDrawers dcLDrawers pmLDrawers cdLDrawers ctLDrawers ocLComing kVLComing dcLComing pmLComing cdLComing ctLComing ocLWord kVLWord dcLWord pmLWord cdLWord ctLWord ocCounted kVCounted dcCounted pmCounted cdCounted ctCounted ocHeavy kVHeavy dcHeavy pmHeavy cdHeavy ctHeavy ocLTold kVLTold dcLTold pmLTold cdLTold ctLTold ocDInit kVDInit dcDInit pmDInit cdDInit ctDInit ocLaw kVLaw dcLaw pmLaw cdLaw ctLaw ocT : Value} {t8 tL tG tM tT : Tok} {nT : Nat}
    (aC : PySem.W.nsIn K mainGlobals "Desk" = some (some (.ref C)))
    (aIsWhole : PySem.W.nsIn K mainGlobals "is_whole" = some (some (.ref fIsWhole)))
    (lIsWhole : K.lookup fIsWhole = some ⟨ocIsWhole, odIsWhole, .func (PySem.W.fnOf "is_whole" "is_whole" (defArgs sIsWhole) (defBody sIsWhole) (defScope sIsWhole) .none kVIsWhole dcIsWhole pmIsWhole anIsWhole cdIsWhole ctIsWhole), slIsWhole⟩)
    (cIsWhole : PySem.W.codeIn K cdIsWhole "is_whole" = true)
    (kIsWhole : PySem.W.keepIn K (.ref fIsWhole) = true)
    (aIsName : PySem.W.nsIn K mainGlobals "is_name" = some (some (.ref fIsName)))
    (lIsName : K.lookup fIsName = some ⟨ocIsName, odIsName, .func (PySem.W.fnOf "is_name" "is_name" (defArgs sIsName) (defBody sIsName) (defScope sIsName) .none kVIsName dcIsName pmIsName anIsName cdIsName ctIsName), slIsName⟩)
    (cIsName : PySem.W.codeIn K cdIsName "is_name" = true)
    (kIsName : PySem.W.keepIn K (.ref fIsName) = true)
    (aNeedComing : PySem.W.nsIn K mainGlobals "need_coming" = some (some (.ref fNeedComing)))
    (lNeedComing : K.lookup fNeedComing = some ⟨ocNeedComing, odNeedComing, .func (PySem.W.fnOf "need_coming" "need_coming" (defArgs sNeedComing) (defBody sNeedComing) (defScope sNeedComing) .none kVNeedComing dcNeedComing pmNeedComing anNeedComing cdNeedComing ctNeedComing), slNeedComing⟩)
    (cNeedComing : PySem.W.codeIn K cdNeedComing "need_coming" = true)
    (kNeedComing : PySem.W.keepIn K (.ref fNeedComing) = true)
    (aNeedDrawers : PySem.W.nsIn K mainGlobals "need_drawers" = some (some (.ref fNeedDrawers)))
    (lNeedDrawers : K.lookup fNeedDrawers = some ⟨ocNeedDrawers, odNeedDrawers, .func (PySem.W.fnOf "need_drawers" "need_drawers" (defArgs sNeedDrawers) (defBody sNeedDrawers) (defScope sNeedDrawers) .none kVNeedDrawers dcNeedDrawers pmNeedDrawers anNeedDrawers cdNeedDrawers ctNeedDrawers), slNeedDrawers⟩)
    (cNeedDrawers : PySem.W.codeIn K cdNeedDrawers "need_drawers" = true)
    (kNeedDrawers : PySem.W.keepIn K (.ref fNeedDrawers) = true)
    (aLowered : PySem.W.nsIn K mainGlobals "lowered" = some (some (.ref fLowered)))
    (lLowered : K.lookup fLowered = some ⟨ocLowered, odLowered, .func (PySem.W.fnOf "lowered" "lowered" (defArgs sLowered) (defBody sLowered) (defScope sLowered) .none kVLowered dcLowered pmLowered anLowered cdLowered ctLowered), slLowered⟩)
    (cLowered : PySem.W.codeIn K cdLowered "lowered" = true)
    (kLowered : PySem.W.keepIn K (.ref fLowered) = true)
    (aDCome : PySem.W.findIn K (.ref C) "come" = some (some (.ref fDCome)))
    (iDCome : PySem.W.isFn K (.ref fDCome) = true)
    (lDCome : K.lookup fDCome = some ⟨ocDCome, odDCome, .func (PySem.W.fnOf "come" "Desk.come" (defArgs sDCome) (defBody sDCome) (defScope sDCome) (.ref tD) kVDCome dcDCome pmDCome anDCome cdDCome ctDCome), slDCome⟩)
    (cDCome : PySem.W.codeIn K cdDCome "Desk.come" = true)
    (kDCome : PySem.W.keepIn K (.ref fDCome) = true)
    (aDShown : PySem.W.findIn K (.ref C) "shown" = some (some (.ref fDShown)))
    (iDShown : PySem.W.isFn K (.ref fDShown) = true)
    (lDShown : K.lookup fDShown = some ⟨ocDShown, odDShown, .func (PySem.W.fnOf "shown" "Desk.shown" (defArgs sDShown) (defBody sDShown) (defScope sDShown) .none kVDShown dcDShown pmDShown anDShown cdDShown ctDShown), slDShown⟩)
    (cDShown : PySem.W.codeIn K cdDShown "Desk.shown" = true)
    (kDShown : PySem.W.keepIn K (.ref fDShown) = true)
    (aDLost : PySem.W.findIn K (.ref C) "lost" = some (some (.ref fDLost)))
    (iDLost : PySem.W.isFn K (.ref fDLost) = true)
    (lDLost : K.lookup fDLost = some ⟨ocDLost, odDLost, .func (PySem.W.fnOf "lost" "Desk.lost" (defArgs sDLost) (defBody sDLost) (defScope sDLost) .none kVDLost dcDLost pmDLost anDLost cdDLost ctDLost), slDLost⟩)
    (cDLost : PySem.W.codeIn K cdDLost "Desk.lost" = true)
    (kDLost : PySem.W.keepIn K (.ref fDLost) = true)
    (aDWeight : PySem.W.findIn K (.ref C) "weight" = some (some (.ref fDWeight)))
    (iDWeight : PySem.W.isFn K (.ref fDWeight) = true)
    (lDWeight : K.lookup fDWeight = some ⟨ocDWeight, odDWeight, .func (PySem.W.fnOf "weight" "Desk.weight" (defArgs sDWeight) (defBody sDWeight) (defScope sDWeight) .none kVDWeight dcDWeight pmDWeight anDWeight cdDWeight ctDWeight), slDWeight⟩)
    (cDWeight : PySem.W.codeIn K cdDWeight "Desk.weight" = true)
    (kDWeight : PySem.W.keepIn K (.ref fDWeight) = true)
    (aDDrawers : PySem.W.findIn K (.ref C) "drawers" = some (some (.ref fDDrawers)))
    (iDDrawers : PySem.W.isFn K (.ref fDDrawers) = true)
    (lDDrawers : K.lookup fDDrawers = some ⟨ocDDrawers, odDDrawers, .func (PySem.W.fnOf "drawers" "Desk.drawers" (defArgs sDDrawers) (defBody sDDrawers) (defScope sDDrawers) .none kVDDrawers dcDDrawers pmDDrawers anDDrawers cdDDrawers ctDDrawers), slDDrawers⟩)
    (cDDrawers : PySem.W.codeIn K cdDDrawers "Desk.drawers" = true)
    (kDDrawers : PySem.W.keepIn K (.ref fDDrawers) = true)
    (aLMixed : PySem.W.nsIn K mainGlobals "_law_mixed" = some (some (.ref fLMixed)))
    (lLMixed : K.lookup fLMixed = some ⟨ocLMixed, odLMixed, .func (PySem.W.fnOf "_law_mixed" "_law_mixed" (defArgs sLMixed) (defBody sLMixed) (defScope sLMixed) .none kVLMixed dcLMixed pmLMixed anLMixed cdLMixed ctLMixed), slLMixed⟩)
    (cLMixed : PySem.W.codeIn K cdLMixed "_law_mixed" = true)
    (kLMixed : PySem.W.keepIn K (.ref fLMixed) = true)
    (aLNames : PySem.W.nsIn K mainGlobals "_law_names" = some (some (.ref fLNames)))
    (lLNames : K.lookup fLNames = some ⟨ocLNames, odLNames, .func (PySem.W.fnOf "_law_names" "_law_names" (defArgs sLNames) (defBody sLNames) (defScope sLNames) .none kVLNames dcLNames pmLNames anLNames cdLNames ctLNames), slLNames⟩)
    (cLNames : PySem.W.codeIn K cdLNames "_law_names" = true)
    (kLNames : PySem.W.keepIn K (.ref fLNames) = true)
    (aLDrawers : PySem.W.nsIn K mainGlobals "_law_drawers" = some (some (.ref fLDrawers)))
    (lLDrawers : K.lookup fLDrawers = some ⟨ocLDrawers, odLDrawers, .func (PySem.W.fnOf "_law_drawers" "_law_drawers" (defArgs sLDrawers) (defBody sLDrawers) (defScope sLDrawers) .none kVLDrawers dcLDrawers pmLDrawers anLDrawers cdLDrawers ctLDrawers), slLDrawers⟩)
    (cLDrawers : PySem.W.codeIn K cdLDrawers "_law_drawers" = true)
    (kLDrawers : PySem.W.keepIn K (.ref fLDrawers) = true)
    (aLComing : PySem.W.nsIn K mainGlobals "_law_coming" = some (some (.ref fLComing)))
    (lLComing : K.lookup fLComing = some ⟨ocLComing, odLComing, .func (PySem.W.fnOf "_law_coming" "_law_coming" (defArgs sLComing) (defBody sLComing) (defScope sLComing) .none kVLComing dcLComing pmLComing anLComing cdLComing ctLComing), slLComing⟩)
    (cLComing : PySem.W.codeIn K cdLComing "_law_coming" = true)
    (kLComing : PySem.W.keepIn K (.ref fLComing) = true)
    (aLWord : PySem.W.nsIn K mainGlobals "_law_word" = some (some (.ref fLWord)))
    (lLWord : K.lookup fLWord = some ⟨ocLWord, odLWord, .func (PySem.W.fnOf "_law_word" "_law_word" (defArgs sLWord) (defBody sLWord) (defScope sLWord) .none kVLWord dcLWord pmLWord anLWord cdLWord ctLWord), slLWord⟩)
    (cLWord : PySem.W.codeIn K cdLWord "_law_word" = true)
    (kLWord : PySem.W.keepIn K (.ref fLWord) = true)
    (aCounted : PySem.W.nsIn K mainGlobals "counted" = some (some (.ref fCounted)))
    (lCounted : K.lookup fCounted = some ⟨ocCounted, odCounted, .func (PySem.W.fnOf "counted" "counted" (defArgs sCounted) (defBody sCounted) (defScope sCounted) .none kVCounted dcCounted pmCounted anCounted cdCounted ctCounted), slCounted⟩)
    (cCounted : PySem.W.codeIn K cdCounted "counted" = true)
    (kCounted : PySem.W.keepIn K (.ref fCounted) = true)
    (aHeavy : PySem.W.nsIn K mainGlobals "heavy" = some (some (.ref fHeavy)))
    (lHeavy : K.lookup fHeavy = some ⟨ocHeavy, odHeavy, .func (PySem.W.fnOf "heavy" "heavy" (defArgs sHeavy) (defBody sHeavy) (defScope sHeavy) .none kVHeavy dcHeavy pmHeavy anHeavy cdHeavy ctHeavy), slHeavy⟩)
    (cHeavy : PySem.W.codeIn K cdHeavy "heavy" = true)
    (kHeavy : PySem.W.keepIn K (.ref fHeavy) = true)
    (aLTold : PySem.W.nsIn K mainGlobals "_law_told" = some (some (.ref fLTold)))
    (lLTold : K.lookup fLTold = some ⟨ocLTold, odLTold, .func (PySem.W.fnOf "_law_told" "_law_told" (defArgs sLTold) (defBody sLTold) (defScope sLTold) .none kVLTold dcLTold pmLTold anLTold cdLTold ctLTold), slLTold⟩)
    (cLTold : PySem.W.codeIn K cdLTold "_law_told" = true)
    (kLTold : PySem.W.keepIn K (.ref fLTold) = true)
    (aDInit : PySem.W.findIn K (.ref C) "__init__" = some (some (.ref fDInit)))
    (iDInit : PySem.W.isFn K (.ref fDInit) = true)
    (lDInit : K.lookup fDInit = some ⟨ocDInit, odDInit, .func (PySem.W.fnOf "__init__" "Desk.__init__" (defArgs sDInit) (defBody sDInit) (defScope sDInit) .none kVDInit dcDInit pmDInit anDInit cdDInit ctDInit), slDInit⟩)
    (cDInit : PySem.W.codeIn K cdDInit "Desk.__init__" = true)
    (kDInit : PySem.W.keepIn K (.ref fDInit) = true)
    (aLaw : PySem.W.nsIn K mainGlobals "law" = some (some (.ref fLaw)))
    (lLaw : K.lookup fLaw = some ⟨ocLaw, odLaw, .func (PySem.W.fnOf "law" "law" (defArgs sLaw) (defBody sLaw) (defScope sLaw) .none kVLaw dcLaw pmLaw anLaw cdLaw ctLaw), slLaw⟩)
    (cLaw : PySem.W.codeIn K cdLaw "law" = true)
    (kLaw : PySem.W.keepIn K (.ref fLaw) = true)
    (lT : K.lookup tD = some ⟨ocT, odT, .seq #[.int 1 tT] nT, slT⟩)
    (pg : PySem.W.plainGet K C Str.empty = true)
    (hd : PySem.W.hasDictIn K C = true)
    (po : PySem.W.plainOver K C = true)
    (sa : PySem.W.findIn K (.ref C) "__setattr__" = some (some (.builtin "object.__setattr__")))
    (mk : PySem.W.makesIn K C = true)
    (kc : PySem.W.keepIn K (.ref C) = true)
    (n_room : PySem.W.findIn K (.ref C) "room" = some none)
    (n_counts : PySem.W.findIn K (.ref C) "counts" = some none)
    (n_gone : PySem.W.findIn K (.ref C) "gone" = some none)
    (n_total : PySem.W.findIn K (.ref C) "total" = some none)
    (o_len : PySem.W.nsIn K mainGlobals "len" = some none)
    (o_min : PySem.W.nsIn K mainGlobals "min" = some none)
    (o_list : PySem.W.nsIn K mainGlobals "list" = some none)
    (o_dict : PySem.W.nsIn K mainGlobals "dict" = some none)
    (o_sorted : PySem.W.nsIn K mainGlobals "sorted" = some none)
    (o_isinstance : PySem.W.nsIn K mainGlobals "isinstance" = some none)
    (o_int : PySem.W.nsIn K mainGlobals "int" = some none)
    (o_bool : PySem.W.nsIn K mainGlobals "bool" = some none)
    (o_str : PySem.W.nsIn K mainGlobals "str" = some none)
    (o_range : PySem.W.nsIn K mainGlobals "range" = some none)
    (o_enumerate : PySem.W.nsIn K mainGlobals "enumerate" = some none)
    (o_sum : PySem.W.nsIn K mainGlobals "sum" = some none)
    (o_zip : PySem.W.nsIn K mainGlobals "zip" = some none)
    (v_LONGEST : PySem.W.nsIn K mainGlobals "LONGEST" = some (some (.int 8 t8)))
    (v_LETTERS : PySem.W.nsIn K mainGlobals "LETTERS" = some (some (.str "abcdefghijklmnopqrstuvwxyz" tL)))
    (v_GREATEST : PySem.W.nsIn K mainGlobals "GREATEST" = some (some (.int 1000000000000000000000000000000000000000000000000000000000000 tG)))
    (v_MOST_DRAWERS : PySem.W.nsIn K mainGlobals "MOST_DRAWERS" = some (some (.int 50 tM)))
    (ea_NoName : PySem.W.nsIn K mainGlobals "NoName" = some (some (.ref CN)))
    (ex_NoName : PySem.W.excIn K CN [.type "ValueError", .type "Exception", .type "BaseException", .type "object"] "ValueError.__new__" = true)
    (ek_NoName : PySem.W.keepIn K (.ref CN) = true)
    (eb_NoName : PySem.W.subIn K (.ref CN) (.type "BaseException") = some true)
    (et_NoName : PySem.W.typeIn K (.ref CN) = some (.type "type"))
    (ea_NoWeight : PySem.W.nsIn K mainGlobals "NoWeight" = some (some (.ref CW)))
    (ex_NoWeight : PySem.W.excIn K CW [.type "ValueError", .type "Exception", .type "BaseException", .type "object"] "ValueError.__new__" = true)
    (ek_NoWeight : PySem.W.keepIn K (.ref CW) = true)
    (eb_NoWeight : PySem.W.subIn K (.ref CW) (.type "BaseException") = some true)
    (et_NoWeight : PySem.W.typeIn K (.ref CW) = some (.type "type"))
    (ea_NoDesk : PySem.W.nsIn K mainGlobals "NoDesk" = some (some (.ref CD)))
    (ex_NoDesk : PySem.W.excIn K CD [.type "ValueError", .type "Exception", .type "BaseException", .type "object"] "ValueError.__new__" = true)
    (ek_NoDesk : PySem.W.keepIn K (.ref CD) = true)
    (eb_NoDesk : PySem.W.subIn K (.ref CD) (.type "BaseException") = some true)
    (et_NoDesk : PySem.W.typeIn K (.ref CD) = some (.type "type"))
    (ea_NoMatch : PySem.W.nsIn K mainGlobals "NoMatch" = some (some (.ref CQ)))
    (ea_NoPiece : PySem.W.nsIn K mainGlobals "NoPiece" = some (some (.ref CP)))
    (ea_NoText : PySem.W.nsIn K mainGlobals "NoText" = some (some (.ref CT)))
    (ea_DrawerError : PySem.W.nsIn K mainGlobals "DrawerError" = some (some (.ref CE)))
    (ce_b : PySem.W.subIn K (.ref CE) (.type "BaseException") = some true)
    (ce_d : PySem.W.hasDictIn K CE = true)
    (ce_t : PySem.W.typeIn K (.ref CE) = some (.type "type"))
    (ce_NoName : PySem.W.subIn K (.ref CN) (.ref CE) = some true)
    (ce_NoWeight : PySem.W.subIn K (.ref CW) (.ref CE) = some true)
    (ce_NoDesk : PySem.W.subIn K (.ref CD) (.ref CE) = some true)
    (kg_NoName : PySem.W.findIn K (.ref CN) "__getattribute__" = some (some (.builtin "BaseException.__getattribute__")))
    (kk_NoName : PySem.W.findIn K (.ref CN) "__getattr__" = some none)
    (kd_NoName : PySem.W.hasDictIn K CN = true)
    (ka_NoName : PySem.W.findIn K (.ref CN) "__class__" = some (some (.builtin "object.__class__")))
    (km_NoName : PySem.W.mroIn K CN (.type "object") = some true)
    (ks_NoName_NoWeight : PySem.W.subIn K (.ref CN) (.ref CW) = some false)
    (kn_NoName_NoWeight : (Value.ref CN == Value.ref CW) = false)
    (ks_NoName_NoDesk : PySem.W.subIn K (.ref CN) (.ref CD) = some false)
    (kn_NoName_NoDesk : (Value.ref CN == Value.ref CD) = false)
    (ks_NoName_NoMatch : PySem.W.subIn K (.ref CN) (.ref CQ) = some false)
    (kn_NoName_NoMatch : (Value.ref CN == Value.ref CQ) = false)
    (ks_NoName_NoPiece : PySem.W.subIn K (.ref CN) (.ref CP) = some false)
    (kn_NoName_NoPiece : (Value.ref CN == Value.ref CP) = false)
    (ks_NoName_NoText : PySem.W.subIn K (.ref CN) (.ref CT) = some false)
    (kn_NoName_NoText : (Value.ref CN == Value.ref CT) = false)
    (kg_NoWeight : PySem.W.findIn K (.ref CW) "__getattribute__" = some (some (.builtin "BaseException.__getattribute__")))
    (kk_NoWeight : PySem.W.findIn K (.ref CW) "__getattr__" = some none)
    (kd_NoWeight : PySem.W.hasDictIn K CW = true)
    (ka_NoWeight : PySem.W.findIn K (.ref CW) "__class__" = some (some (.builtin "object.__class__")))
    (km_NoWeight : PySem.W.mroIn K CW (.type "object") = some true)
    (ks_NoWeight_NoName : PySem.W.subIn K (.ref CW) (.ref CN) = some false)
    (kn_NoWeight_NoName : (Value.ref CW == Value.ref CN) = false)
    (ks_NoWeight_NoDesk : PySem.W.subIn K (.ref CW) (.ref CD) = some false)
    (kn_NoWeight_NoDesk : (Value.ref CW == Value.ref CD) = false)
    (ks_NoWeight_NoMatch : PySem.W.subIn K (.ref CW) (.ref CQ) = some false)
    (kn_NoWeight_NoMatch : (Value.ref CW == Value.ref CQ) = false)
    (ks_NoWeight_NoPiece : PySem.W.subIn K (.ref CW) (.ref CP) = some false)
    (kn_NoWeight_NoPiece : (Value.ref CW == Value.ref CP) = false)
    (ks_NoWeight_NoText : PySem.W.subIn K (.ref CW) (.ref CT) = some false)
    (kn_NoWeight_NoText : (Value.ref CW == Value.ref CT) = false)
    (kg_NoDesk : PySem.W.findIn K (.ref CD) "__getattribute__" = some (some (.builtin "BaseException.__getattribute__")))
    (kk_NoDesk : PySem.W.findIn K (.ref CD) "__getattr__" = some none)
    (kd_NoDesk : PySem.W.hasDictIn K CD = true)
    (ka_NoDesk : PySem.W.findIn K (.ref CD) "__class__" = some (some (.builtin "object.__class__")))
    (km_NoDesk : PySem.W.mroIn K CD (.type "object") = some true)
    (ks_NoDesk_NoName : PySem.W.subIn K (.ref CD) (.ref CN) = some false)
    (kn_NoDesk_NoName : (Value.ref CD == Value.ref CN) = false)
    (ks_NoDesk_NoWeight : PySem.W.subIn K (.ref CD) (.ref CW) = some false)
    (kn_NoDesk_NoWeight : (Value.ref CD == Value.ref CW) = false)
    (ks_NoDesk_NoMatch : PySem.W.subIn K (.ref CD) (.ref CQ) = some false)
    (kn_NoDesk_NoMatch : (Value.ref CD == Value.ref CQ) = false)
    (ks_NoDesk_NoPiece : PySem.W.subIn K (.ref CD) (.ref CP) = some false)
    (kn_NoDesk_NoPiece : (Value.ref CD == Value.ref CP) = false)
    (ks_NoDesk_NoText : PySem.W.subIn K (.ref CD) (.ref CT) = some false)
    (kn_NoDesk_NoText : (Value.ref CD == Value.ref CT) = false)
    (kd_NoMatch : PySem.W.hasDictIn K CQ = true)
    (et_NoMatch : PySem.W.typeIn K (.ref CQ) = some (.type "type"))
    (kd_NoPiece : PySem.W.hasDictIn K CP = true)
    (et_NoPiece : PySem.W.typeIn K (.ref CP) = some (.type "type"))
    (kd_NoText : PySem.W.hasDictIn K CT = true)
    (et_NoText : PySem.W.typeIn K (.ref CT) = some (.type "type"))
    (kx_n : PySem.W.specialIn K (.builtin "object.__class__") "__get__" = some (some (.builtin "getset_descriptor.__get__")))
    (kx_t : PySem.W.takesIn K (.builtin "object.__class__") = some true)
    : ∃ fd : FuncData, (∀ (s : Shared) (v : Value), BindsTo s fd ⟨[v], []⟩ [("_law_script", v)]) ∧ ∀ base : Heap, K.In base → base.Ns mainGlobals mg → FnOk l.prog w K mg base CX0 7 fa fd pLaw (spLaw K) := by
  have e := hfa.symm.trans (PySem.W.mg_of X G aLaw)
  cases e
  have z_len := PySem.W.mg_none_of X G o_len
  have z_min := PySem.W.mg_none_of X G o_min
  have z_list := PySem.W.mg_none_of X G o_list
  have z_dict := PySem.W.mg_none_of X G o_dict
  have z_sorted := PySem.W.mg_none_of X G o_sorted
  have z_isinstance := PySem.W.mg_none_of X G o_isinstance
  have z_int := PySem.W.mg_none_of X G o_int
  have z_bool := PySem.W.mg_none_of X G o_bool
  have z_str := PySem.W.mg_none_of X G o_str
  have z_range := PySem.W.mg_none_of X G o_range
  have z_enumerate := PySem.W.mg_none_of X G o_enumerate
  have z_sum := PySem.W.mg_none_of X G o_sum
  have z_zip := PySem.W.mg_none_of X G o_zip
  have g_LONGEST := PySem.W.mg_of X G v_LONGEST
  have g_LETTERS := PySem.W.mg_of X G v_LETTERS
  have g_GREATEST := PySem.W.mg_of X G v_GREATEST
  have g_MOST_DRAWERS := PySem.W.mg_of X G v_MOST_DRAWERS
  have eN : ExT K mg "NoName" CN := ⟨PySem.W.mg_of X G ea_NoName, ex_NoName, ek_NoName, eb_NoName, et_NoName⟩
  have eW : ExT K mg "NoWeight" CW := ⟨PySem.W.mg_of X G ea_NoWeight, ex_NoWeight, ek_NoWeight, eb_NoWeight, et_NoWeight⟩
  have eD : ExT K mg "NoDesk" CD := ⟨PySem.W.mg_of X G ea_NoDesk, ex_NoDesk, ek_NoDesk, eb_NoDesk, et_NoDesk⟩
  have g_NoName := PySem.W.mg_of X G ea_NoName
  have g_NoWeight := PySem.W.mg_of X G ea_NoWeight
  have g_NoDesk := PySem.W.mg_of X G ea_NoDesk
  have g_NoMatch := PySem.W.mg_of X G ea_NoMatch
  have g_NoPiece := PySem.W.mg_of X G ea_NoPiece
  have g_NoText := PySem.W.mg_of X G ea_NoText
  have g_DrawerError := PySem.W.mg_of X G ea_DrawerError
  have h_NoName := PySem.W.exm_ref ce_b ce_d ce_t ce_NoName
  have h_NoWeight := PySem.W.exm_ref ce_b ce_d ce_t ce_NoWeight
  have h_NoDesk := PySem.W.exm_ref ce_b ce_d ce_t ce_NoDesk
  have x_NoName : ExcC K CN := ⟨kg_NoName, kk_NoName, eb_NoName, kd_NoName, ka_NoName, kx_n, kx_t, km_NoName⟩
  have kq_NoName_NoName := kit_self (K := K) (D := CN)
  have kq_NoName_NoWeight := kit_no kn_NoName_NoWeight kd_NoWeight et_NoWeight ks_NoName_NoWeight
  have kq_NoName_NoDesk := kit_no kn_NoName_NoDesk kd_NoDesk et_NoDesk ks_NoName_NoDesk
  have kq_NoName_NoMatch := kit_no kn_NoName_NoMatch kd_NoMatch et_NoMatch ks_NoName_NoMatch
  have kq_NoName_NoPiece := kit_no kn_NoName_NoPiece kd_NoPiece et_NoPiece ks_NoName_NoPiece
  have kq_NoName_NoText := kit_no kn_NoName_NoText kd_NoText et_NoText ks_NoName_NoText
  have k_NoName : Kind K CN CW CD CQ CP CT CN true false false false false false := ⟨x_NoName, kq_NoName_NoName, kq_NoName_NoWeight, kq_NoName_NoDesk, kq_NoName_NoMatch, kq_NoName_NoPiece, kq_NoName_NoText⟩
  have x_NoWeight : ExcC K CW := ⟨kg_NoWeight, kk_NoWeight, eb_NoWeight, kd_NoWeight, ka_NoWeight, kx_n, kx_t, km_NoWeight⟩
  have kq_NoWeight_NoName := kit_no kn_NoWeight_NoName kd_NoName et_NoName ks_NoWeight_NoName
  have kq_NoWeight_NoWeight := kit_self (K := K) (D := CW)
  have kq_NoWeight_NoDesk := kit_no kn_NoWeight_NoDesk kd_NoDesk et_NoDesk ks_NoWeight_NoDesk
  have kq_NoWeight_NoMatch := kit_no kn_NoWeight_NoMatch kd_NoMatch et_NoMatch ks_NoWeight_NoMatch
  have kq_NoWeight_NoPiece := kit_no kn_NoWeight_NoPiece kd_NoPiece et_NoPiece ks_NoWeight_NoPiece
  have kq_NoWeight_NoText := kit_no kn_NoWeight_NoText kd_NoText et_NoText ks_NoWeight_NoText
  have k_NoWeight : Kind K CN CW CD CQ CP CT CW false true false false false false := ⟨x_NoWeight, kq_NoWeight_NoName, kq_NoWeight_NoWeight, kq_NoWeight_NoDesk, kq_NoWeight_NoMatch, kq_NoWeight_NoPiece, kq_NoWeight_NoText⟩
  have x_NoDesk : ExcC K CD := ⟨kg_NoDesk, kk_NoDesk, eb_NoDesk, kd_NoDesk, ka_NoDesk, kx_n, kx_t, km_NoDesk⟩
  have kq_NoDesk_NoName := kit_no kn_NoDesk_NoName kd_NoName et_NoName ks_NoDesk_NoName
  have kq_NoDesk_NoWeight := kit_no kn_NoDesk_NoWeight kd_NoWeight et_NoWeight ks_NoDesk_NoWeight
  have kq_NoDesk_NoDesk := kit_self (K := K) (D := CD)
  have kq_NoDesk_NoMatch := kit_no kn_NoDesk_NoMatch kd_NoMatch et_NoMatch ks_NoDesk_NoMatch
  have kq_NoDesk_NoPiece := kit_no kn_NoDesk_NoPiece kd_NoPiece et_NoPiece ks_NoDesk_NoPiece
  have kq_NoDesk_NoText := kit_no kn_NoDesk_NoText kd_NoText et_NoText ks_NoDesk_NoText
  have k_NoDesk : Kind K CN CW CD CQ CP CT CD false false true false false false := ⟨x_NoDesk, kq_NoDesk_NoName, kq_NoDesk_NoWeight, kq_NoDesk_NoDesk, kq_NoDesk_NoMatch, kq_NoDesk_NoPiece, kq_NoDesk_NoText⟩
  have T : DkT K mg C CN CW CD := ⟨⟨pg, hd, po, sa⟩, n_room, n_counts, n_gone, n_total, PySem.W.mg_of X G aC, z_len, z_min, z_list, z_dict, z_sorted, eN, eW, eD⟩
  have F_IsWhole := fun_mk (st := sIsWhole) lIsWhole cIsWhole kIsWhole
  have b_IsWhole := F_IsWhole.binds (ps := pIsWhole) fun _ _ _ _ _ _ us hl => match us, hl with | [_], _ => rfl
  have F_IsName := fun_mk (st := sIsName) lIsName cIsName kIsName
  have b_IsName := F_IsName.binds (ps := pIsName) fun _ _ _ _ _ _ us hl => match us, hl with | [_], _ => rfl
  have F_NeedComing := fun_mk (st := sNeedComing) lNeedComing cNeedComing kNeedComing
  have b_NeedComing := F_NeedComing.binds (ps := pNeedComing) fun _ _ _ _ _ _ us hl => match us, hl with | [_, _], _ => rfl
  have F_NeedDrawers := fun_mk (st := sNeedDrawers) lNeedDrawers cNeedDrawers kNeedDrawers
  have b_NeedDrawers := F_NeedDrawers.binds (ps := pNeedDrawers) fun _ _ _ _ _ _ us hl => match us, hl with | [_], _ => rfl
  have F_Lowered := fun_mk (st := sLowered) lLowered cLowered kLowered
  have b_Lowered := F_Lowered.binds (ps := pLowered) fun _ _ _ _ _ _ us hl => match us, hl with | [_, _], _ => rfl
  have F_DCome : FunD K "come" "Desk.come" (defArgs sDCome) (defBody sDCome) (defScope sDCome) [.int 1] [] fDCome (PySem.W.fnOf "come" "Desk.come" (defArgs sDCome) (defBody sDCome) (defScope sDCome) (.ref tD) kVDCome dcDCome pmDCome anDCome cdDCome ctDCome) := ⟨⟨ocDCome, odDCome, .ref tD, kVDCome, dcDCome, pmDCome, anDCome, cdDCome, ctDCome, slDCome, rfl, lDCome, cDCome, .inr ⟨by simp, tD, _, [.int 1 tT], nT, rfl, lT, rfl, .cons ⟨tT, rfl⟩ .nil⟩, .inl rfl⟩, kDCome⟩
  have b_DCome : Binds K (PySem.W.fnOf "come" "Desk.come" (defArgs sDCome) (defBody sDCome) (defScope sDCome) (.ref tD) kVDCome dcDCome pmDCome anDCome cdDCome ctDCome) pDCome [] := by
    obtain ⟨ds, hv, hb⟩ := F_DCome.binds1 (ps := pDCome) 3 1 (by simp) rfl fun _ _ _ _ _ _ _ us its h1 h2 => match us, its, h1, h2 with | [_, _, _], [_], _, _ => ⟨_, rfl, rfl⟩
    cases hv
    exact hb
  have F_DShown := fun_mk (st := sDShown) lDShown cDShown kDShown
  have b_DShown := F_DShown.binds (ps := pDShown) fun _ _ _ _ _ _ us hl => match us, hl with | [_], _ => rfl
  have F_DLost := fun_mk (st := sDLost) lDLost cDLost kDLost
  have b_DLost := F_DLost.binds (ps := pDLost) fun _ _ _ _ _ _ us hl => match us, hl with | [_], _ => rfl
  have F_DWeight := fun_mk (st := sDWeight) lDWeight cDWeight kDWeight
  have b_DWeight := F_DWeight.binds (ps := pDWeight) fun _ _ _ _ _ _ us hl => match us, hl with | [_], _ => rfl
  have F_DDrawers := fun_mk (st := sDDrawers) lDDrawers cDDrawers kDDrawers
  have b_DDrawers := F_DDrawers.binds (ps := pDDrawers) fun _ _ _ _ _ _ us hl => match us, hl with | [_], _ => rfl
  have F_LMixed := fun_mk (st := sLMixed) lLMixed cLMixed kLMixed
  have b_LMixed := F_LMixed.binds (ps := pLMixed) fun _ _ _ _ _ _ us hl => match us, hl with | [_, _], _ => rfl
  have F_LNames := fun_mk (st := sLNames) lLNames cLNames kLNames
  have b_LNames := F_LNames.binds (ps := pLNames) fun _ _ _ _ _ _ us hl => match us, hl with | [_], _ => rfl
  have F_LDrawers := fun_mk (st := sLDrawers) lLDrawers cLDrawers kLDrawers
  have b_LDrawers := F_LDrawers.binds (ps := pLDrawers) fun _ _ _ _ _ _ us hl => match us, hl with | [_], _ => rfl
  have F_LComing := fun_mk (st := sLComing) lLComing cLComing kLComing
  have b_LComing := F_LComing.binds (ps := pLComing) fun _ _ _ _ _ _ us hl => match us, hl with | [_, _, _], _ => rfl
  have F_LWord := fun_mk (st := sLWord) lLWord cLWord kLWord
  have b_LWord := F_LWord.binds (ps := pLWord) fun _ _ _ _ _ _ us hl => match us, hl with | [_], _ => rfl
  have F_Counted := fun_mk (st := sCounted) lCounted cCounted kCounted
  have b_Counted := F_Counted.binds (ps := pCounted) fun _ _ _ _ _ _ us hl => match us, hl with | [_, _], _ => rfl
  have F_Heavy := fun_mk (st := sHeavy) lHeavy cHeavy kHeavy
  have b_Heavy := F_Heavy.binds (ps := pHeavy) fun _ _ _ _ _ _ us hl => match us, hl with | [_, _], _ => rfl
  have F_LTold := fun_mk (st := sLTold) lLTold cLTold kLTold
  have b_LTold := F_LTold.binds (ps := pLTold) fun _ _ _ _ _ _ us hl => match us, hl with | [_, _], _ => rfl
  have F_DInit := fun_mk (st := sDInit) lDInit cDInit kDInit
  have b_DInit := F_DInit.binds (ps := pDInit) fun _ _ _ _ _ _ us hl => match us, hl with | [_, _], _ => rfl
  have F_Law := fun_mk (st := sLaw) lLaw cLaw kLaw
  refine ⟨PySem.W.fnOf "law" "law" (defArgs sLaw) (defBody sLaw) (defScope sLaw) .none kVLaw dcLaw pmLaw anLaw cdLaw ctLaw, fun s v => .of_eq rfl, fun base _ _ => ?_⟩
  have G_IsWhole : Gf l.prog w K mg base CX0 1 "is_whole" pIsWhole (spWhole K) := ⟨fIsWhole, _, ok_whole F_IsWhole z_isinstance z_int z_bool, b_IsWhole, PySem.W.mg_of X G aIsWhole, kIsWhole⟩
  have G_IsName : Gf l.prog w K mg base CX0 1 "is_name" pIsName (spName K) := ⟨fIsName, _, ok_name F_IsName z_isinstance z_str z_len g_LONGEST g_LETTERS, b_IsName, PySem.W.mg_of X G aIsName, kIsName⟩
  have G_NeedComing : Gf l.prog w K mg base (L2.CX l.prog w) 2 "need_coming" pNeedComing (spNeedComing K CN CW) := ⟨fNeedComing, _, ok_needComing F_NeedComing G_IsName G_IsWhole g_GREATEST eN eW, b_NeedComing, PySem.W.mg_of X G aNeedComing, kNeedComing⟩
  have G_NeedDrawers : Gf l.prog w K mg base (L2.CX l.prog w) 2 "need_drawers" pNeedDrawers (spNeedDrawers K CD) := ⟨fNeedDrawers, _, ok_needDrawers F_NeedDrawers G_IsWhole g_MOST_DRAWERS eD, b_NeedDrawers, PySem.W.mg_of X G aNeedDrawers, kNeedDrawers⟩
  have M_Desk : Mk K C fDInit := ⟨mk, aDInit, iDInit, kc⟩
  have OK_Init := ok_init (P := l.prog) (w := w) (base := base) F_DInit T G_NeedDrawers
  have G_Lowered : Gf l.prog w K mg base CX0 1 "lowered" pLowered spLowered := ⟨fLowered, _, ok_lowered F_Lowered, b_Lowered, PySem.W.mg_of X G aLowered, kLowered⟩
  have G_DCome : Gm l.prog w K mg base (L2.CX l.prog w) C 3 "come" pDCome (spCome K C CN CW) := ⟨fDCome, _, ok_come F_DCome T G_NeedComing G_Lowered, b_DCome, ⟨aDCome, iDCome, kDCome⟩⟩
  have G_DShown : Gm l.prog w K mg base CX0 C 1 "shown" pDShown (spShown C) := ⟨fDShown, _, ok_shown F_DShown T, b_DShown, ⟨aDShown, iDShown, kDShown⟩⟩
  have G_DLost : Gm l.prog w K mg base CX0 C 1 "lost" pDLost (spNum C fun _ g _ => g) := ⟨fDLost, _, ok_lost F_DLost T, b_DLost, ⟨aDLost, iDLost, kDLost⟩⟩
  have G_DWeight : Gm l.prog w K mg base CX0 C 1 "weight" pDWeight (spNum C fun _ _ t => t) := ⟨fDWeight, _, ok_weight F_DWeight T, b_DWeight, ⟨aDWeight, iDWeight, kDWeight⟩⟩
  have G_DDrawers : Gm l.prog w K mg base CX0 C 1 "drawers" pDDrawers (spNum C fun r _ _ => r) := ⟨fDDrawers, _, ok_drawers F_DDrawers T, b_DDrawers, ⟨aDDrawers, iDDrawers, kDDrawers⟩⟩
  have G_LMixed : Gf l.prog w K mg base CX0 1 "_law_mixed" pLMixed spMixed := ⟨fLMixed, _, ok_mixed F_LMixed, b_LMixed, PySem.W.mg_of X G aLMixed, kLMixed⟩
  have G_LNames : Gf l.prog w K mg base CX0 2 "_law_names" pLNames (spNames K) := ⟨fLNames, _, ok_names F_LNames G_LMixed z_len z_min z_range, b_LNames, PySem.W.mg_of X G aLNames, kLNames⟩
  have G_LDrawers : Gf l.prog w K mg base CX0 2 "_law_drawers" pLDrawers (spDrawers K) := ⟨fLDrawers, _, ok_drawersL F_LDrawers G_LMixed, b_LDrawers, PySem.W.mg_of X G aLDrawers, kLDrawers⟩
  have G_LComing : Gf l.prog w K mg base CX0 2 "_law_coming" pLComing (spComing K) := ⟨fLComing, _, ok_coming F_LComing G_LMixed, b_LComing, PySem.W.mg_of X G aLComing, kLComing⟩
  have G_LWord : Gf l.prog w K mg base CX0 1 "_law_word" pLWord (spWord K CN CW CD CQ CP CT) := ⟨fLWord, _, ok_word F_LWord z_isinstance z_zip g_NoName g_NoWeight g_NoDesk g_NoMatch g_NoPiece g_NoText, b_LWord, PySem.W.mg_of X G aLWord, kLWord⟩
  have G_Counted : Gf l.prog w K mg base (L2.CX l.prog w) 3 "counted" pCounted (spCounted K C CN CW) := ⟨fCounted, _, ok_counted F_Counted T G_NeedComing G_DShown, b_Counted, PySem.W.mg_of X G aCounted, kCounted⟩
  have G_Heavy : Gf l.prog w K mg base (L2.CX l.prog w) 5 "heavy" pHeavy (spHeavy K CN CW CD) := ⟨fHeavy, _, ok_heavy F_Heavy T M_Desk OK_Init b_DInit G_NeedDrawers G_DCome G_Counted G_DWeight, b_Heavy, PySem.W.mg_of X G aHeavy, kHeavy⟩
  have G_LTold : Gf l.prog w K mg base CX0 6 "_law_told" pLTold (spTold9 K) := ⟨fLTold, _, ok_told9 F_LTold G_Heavy G_LWord g_DrawerError h_NoName h_NoWeight h_NoDesk k_NoName k_NoWeight k_NoDesk, b_LTold, PySem.W.mg_of X G aLTold, kLTold⟩
  have LG : LawG l.prog w K mg base C CN CW CD := ⟨T, ⟨fDInit, _, ⟨mk, aDInit, iDInit, kc⟩, ok_init F_DInit T G_NeedDrawers, b_DInit⟩, G_DCome, G_DShown, G_DLost, G_DWeight, G_DDrawers, G_LMixed, G_LNames, G_LDrawers, G_LComing⟩
  exact ok_law F_Law LG G_LTold z_enumerate z_sum
theorem walk {l : PySem.W.OpenLaw} {q : Program} {loose : List Str} {XP : (Str → Option Value) → Heap → Prop} {YP : World → Heap → Prop} {d : DefRec} {K : Params → PySem.W.Frag} (hn : l.most = some 63) (hdf : d.params.defaults = [])
    (hY : ∀ (w : World) (h : Heap), YP w h → (K w.params).In h)
    (F : ∀ (w : World) (mg : Str → Option Value) (fa : Addr) (h : Heap), (K w.params).In h → h.Ns mainGlobals mg → mg d.name = some (.ref fa) →
      ∃ fd : FuncData, (∀ (s : Shared) (u : Value), BindsTo s fd ⟨[u], []⟩ [("_law_script", u)]) ∧ ∀ base : Heap, (K w.params).In base → base.Ns mainGlobals mg → FnOk l.prog w (K w.params) mg base CX0 7 fa fd pLaw (spLaw (K w.params))) :
    PySem.W.WalkO q loose XP YP l.row.toRowW d [] (fun f vs => PySem.call f vs) :=
  L2.walk_of (n := 63) (k := 7) (x := "_law_script") (CX := fun _ => CX0) (sp := fun w => spLaw (K w.params)) hn (by decide) hdf ⟨rfl, by decide, by decide⟩ hY F (fun _ _ a ns hl _ hS => ⟨a, ns, rfl, hS, hl, fun _ => rfl⟩) fun _ _ _ _ _ z => z
end DK
open PySem PySem.W PyProof.Rows
set_option maxRecDepth 100000 in
set_option maxHeartbeats 0 in
theorem PySem.Challenge.cw_drawerdesk_k09_heavy_holds : PySem.Challenge.rw_drawerdesk_k09_heavy.Holds := by
  w_on; o_law; k_head; (case hw => w_witness2)
  k_fill
  refine DK.walk (l := PySem.Challenge.rw_drawerdesk_k09_heavy) rfl rfl (fun w h Y => PySem.W.kIn_of Y) ?F
  case F =>
    intro w mg fa h KX G hmg
    refine' DK.all_mk KX G hmg ?aC ?aIsWhole ?lIsWhole ?cIsWhole ?kIsWhole ?aIsName ?lIsName ?cIsName ?kIsName ?aNeedComing ?lNeedComing ?cNeedComing ?kNeedComing ?aNeedDrawers ?lNeedDrawers ?cNeedDrawers ?kNeedDrawers ?aLowered ?lLowered ?cLowered ?kLowered ?aDCome ?iDCome ?lDCome ?cDCome ?kDCome ?aDShown ?iDShown ?lDShown ?cDShown ?kDShown ?aDLost ?iDLost ?lDLost ?cDLost ?kDLost ?aDWeight ?iDWeight ?lDWeight ?cDWeight ?kDWeight ?aDDrawers ?iDDrawers ?lDDrawers ?cDDrawers ?kDDrawers ?aLMixed ?lLMixed ?cLMixed ?kLMixed ?aLNames ?lLNames ?cLNames ?kLNames ?aLDrawers ?lLDrawers ?cLDrawers ?kLDrawers ?aLComing ?lLComing ?cLComing ?kLComing ?aLWord ?lLWord ?cLWord ?kLWord ?aCounted ?lCounted ?cCounted ?kCounted ?aHeavy ?lHeavy ?cHeavy ?kHeavy ?aLTold ?lLTold ?cLTold ?kLTold ?aDInit ?iDInit ?lDInit ?cDInit ?kDInit ?aLaw ?lLaw ?cLaw ?kLaw ?lT ?pg ?hd ?po ?sa ?mk ?kc ?n_room ?n_counts ?n_gone ?n_total ?o_len ?o_min ?o_list ?o_dict ?o_sorted ?o_isinstance ?o_int ?o_bool ?o_str ?o_range ?o_enumerate ?o_sum ?o_zip ?v_LONGEST ?v_LETTERS ?v_GREATEST ?v_MOST_DRAWERS ?ea_NoName ?ex_NoName ?ek_NoName ?eb_NoName ?et_NoName ?ea_NoWeight ?ex_NoWeight ?ek_NoWeight ?eb_NoWeight ?et_NoWeight ?ea_NoDesk ?ex_NoDesk ?ek_NoDesk ?eb_NoDesk ?et_NoDesk ?ea_NoMatch ?ea_NoPiece ?ea_NoText ?ea_DrawerError ?ce_b ?ce_d ?ce_t ?ce_NoName ?ce_NoWeight ?ce_NoDesk ?kg_NoName ?kk_NoName ?kd_NoName ?ka_NoName ?km_NoName ?ks_NoName_NoWeight ?kn_NoName_NoWeight ?ks_NoName_NoDesk ?kn_NoName_NoDesk ?ks_NoName_NoMatch ?kn_NoName_NoMatch ?ks_NoName_NoPiece ?kn_NoName_NoPiece ?ks_NoName_NoText ?kn_NoName_NoText ?kg_NoWeight ?kk_NoWeight ?kd_NoWeight ?ka_NoWeight ?km_NoWeight ?ks_NoWeight_NoName ?kn_NoWeight_NoName ?ks_NoWeight_NoDesk ?kn_NoWeight_NoDesk ?ks_NoWeight_NoMatch ?kn_NoWeight_NoMatch ?ks_NoWeight_NoPiece ?kn_NoWeight_NoPiece ?ks_NoWeight_NoText ?kn_NoWeight_NoText ?kg_NoDesk ?kk_NoDesk ?kd_NoDesk ?ka_NoDesk ?km_NoDesk ?ks_NoDesk_NoName ?kn_NoDesk_NoName ?ks_NoDesk_NoWeight ?kn_NoDesk_NoWeight ?ks_NoDesk_NoMatch ?kn_NoDesk_NoMatch ?ks_NoDesk_NoPiece ?kn_NoDesk_NoPiece ?ks_NoDesk_NoText ?kn_NoDesk_NoText ?kd_NoMatch ?et_NoMatch ?kd_NoPiece ?et_NoPiece ?kd_NoText ?et_NoText ?kx_n ?kx_t
    (case aC => k_is)
    (case aIsWhole => k_is)
    (case lIsWhole => k_is)
    (case cIsWhole => k_is)
    (case kIsWhole => k_is)
    (case aIsName => k_is)
    (case lIsName => k_is)
    (case cIsName => k_is)
    (case kIsName => k_is)
    (case aNeedComing => k_is)
    (case lNeedComing => k_is)
    (case cNeedComing => k_is)
    (case kNeedComing => k_is)
    (case aNeedDrawers => k_is)
    (case lNeedDrawers => k_is)
    (case cNeedDrawers => k_is)
    (case kNeedDrawers => k_is)
    (case aLowered => k_is)
    (case lLowered => k_is)
    (case cLowered => k_is)
    (case kLowered => k_is)
    (case aDCome => k_is)
    (case iDCome => k_is)
    (case lDCome => k_is)
    (case cDCome => k_is)
    (case kDCome => k_is)
    (case aDShown => k_is)
    (case iDShown => k_is)
    (case lDShown => k_is)
    (case cDShown => k_is)
    (case kDShown => k_is)
    (case aDLost => k_is)
    (case iDLost => k_is)
    (case lDLost => k_is)
    (case cDLost => k_is)
    (case kDLost => k_is)
    (case aDWeight => k_is)
    (case iDWeight => k_is)
    (case lDWeight => k_is)
    (case cDWeight => k_is)
    (case kDWeight => k_is)
    (case aDDrawers => k_is)
    (case iDDrawers => k_is)
    (case lDDrawers => k_is)
    (case cDDrawers => k_is)
    (case kDDrawers => k_is)
    (case aLMixed => k_is)
    (case lLMixed => k_is)
    (case cLMixed => k_is)
    (case kLMixed => k_is)
    (case aLNames => k_is)
    (case lLNames => k_is)
    (case cLNames => k_is)
    (case kLNames => k_is)
    (case aLDrawers => k_is)
    (case lLDrawers => k_is)
    (case cLDrawers => k_is)
    (case kLDrawers => k_is)
    (case aLComing => k_is)
    (case lLComing => k_is)
    (case cLComing => k_is)
    (case kLComing => k_is)
    (case aLWord => k_is)
    (case lLWord => k_is)
    (case cLWord => k_is)
    (case kLWord => k_is)
    (case aCounted => k_is)
    (case lCounted => k_is)
    (case cCounted => k_is)
    (case kCounted => k_is)
    (case aHeavy => k_is)
    (case lHeavy => k_is)
    (case cHeavy => k_is)
    (case kHeavy => k_is)
    (case aLTold => k_is)
    (case lLTold => k_is)
    (case cLTold => k_is)
    (case kLTold => k_is)
    (case aDInit => k_is)
    (case iDInit => k_is)
    (case lDInit => k_is)
    (case cDInit => k_is)
    (case kDInit => k_is)
    (case aLaw => k_is)
    (case lLaw => k_is)
    (case cLaw => k_is)
    (case kLaw => k_is)
    (case lT => k_is)
    (case pg => k_is)
    (case hd => k_is)
    (case po => k_is)
    (case sa => k_is)
    (case mk => k_is)
    (case kc => k_is)
    (case n_room => k_is)
    (case n_counts => k_is)
    (case n_gone => k_is)
    (case n_total => k_is)
    (case o_len => k_is)
    (case o_min => k_is)
    (case o_list => k_is)
    (case o_dict => k_is)
    (case o_sorted => k_is)
    (case o_isinstance => k_is)
    (case o_int => k_is)
    (case o_bool => k_is)
    (case o_str => k_is)
    (case o_range => k_is)
    (case o_enumerate => k_is)
    (case o_sum => k_is)
    (case o_zip => k_is)
    (case v_LONGEST => k_is)
    (case v_LETTERS => k_is)
    (case v_GREATEST => k_is)
    (case v_MOST_DRAWERS => k_is)
    (case ea_NoName => k_is)
    (case ex_NoName => k_exc)
    (case ek_NoName => k_is)
    (case eb_NoName => k_is)
    (case et_NoName => k_is)
    (case ea_NoWeight => k_is)
    (case ex_NoWeight => k_exc)
    (case ek_NoWeight => k_is)
    (case eb_NoWeight => k_is)
    (case et_NoWeight => k_is)
    (case ea_NoDesk => k_is)
    (case ex_NoDesk => k_exc)
    (case ek_NoDesk => k_is)
    (case eb_NoDesk => k_is)
    (case et_NoDesk => k_is)
    (case ea_NoMatch => k_is)
    (case ea_NoPiece => k_is)
    (case ea_NoText => k_is)
    (case ea_DrawerError => k_is)
    (case ce_b => k_is)
    (case ce_d => k_is)
    (case ce_t => k_is)
    (case ce_NoName => k_is)
    (case ce_NoWeight => k_is)
    (case ce_NoDesk => k_is)
    (case kg_NoName => k_is)
    (case kk_NoName => k_is)
    (case kd_NoName => k_is)
    (case ka_NoName => k_is)
    (case km_NoName => k_is)
    (case ks_NoName_NoWeight => k_is)
    (case kn_NoName_NoWeight => rfl)
    (case ks_NoName_NoDesk => k_is)
    (case kn_NoName_NoDesk => rfl)
    (case ks_NoName_NoMatch => k_is)
    (case kn_NoName_NoMatch => rfl)
    (case ks_NoName_NoPiece => k_is)
    (case kn_NoName_NoPiece => rfl)
    (case ks_NoName_NoText => k_is)
    (case kn_NoName_NoText => rfl)
    (case kg_NoWeight => k_is)
    (case kk_NoWeight => k_is)
    (case kd_NoWeight => k_is)
    (case ka_NoWeight => k_is)
    (case km_NoWeight => k_is)
    (case ks_NoWeight_NoName => k_is)
    (case kn_NoWeight_NoName => rfl)
    (case ks_NoWeight_NoDesk => k_is)
    (case kn_NoWeight_NoDesk => rfl)
    (case ks_NoWeight_NoMatch => k_is)
    (case kn_NoWeight_NoMatch => rfl)
    (case ks_NoWeight_NoPiece => k_is)
    (case kn_NoWeight_NoPiece => rfl)
    (case ks_NoWeight_NoText => k_is)
    (case kn_NoWeight_NoText => rfl)
    (case kg_NoDesk => k_is)
    (case kk_NoDesk => k_is)
    (case kd_NoDesk => k_is)
    (case ka_NoDesk => k_is)
    (case km_NoDesk => k_is)
    (case ks_NoDesk_NoName => k_is)
    (case kn_NoDesk_NoName => rfl)
    (case ks_NoDesk_NoWeight => k_is)
    (case kn_NoDesk_NoWeight => rfl)
    (case ks_NoDesk_NoMatch => k_is)
    (case kn_NoDesk_NoMatch => rfl)
    (case ks_NoDesk_NoPiece => k_is)
    (case kn_NoDesk_NoPiece => rfl)
    (case ks_NoDesk_NoText => k_is)
    (case kn_NoDesk_NoText => rfl)
    (case kd_NoMatch => k_is)
    (case et_NoMatch => k_is)
    (case kd_NoPiece => k_is)
    (case et_NoPiece => k_is)
    (case kd_NoText => k_is)
    (case et_NoText => k_is)
    (case kx_n => k_is)
    (case kx_t => k_is)
#print axioms PySem.Challenge.cw_drawerdesk_k09_heavy_holds
