import PyProof.Rows.All
import Wide.All
import OpenK.AllK
import Wide.FinOn
import HandS.ForMost
import HandS.WordsExc
import HandS.TryOnly
import HandS.ExcOwn
import HandS.IsInst
import HandS.StrMore
import HandS.SortKw
import HandS.SortInts
import HandS.ListItems
import HandS.DictComp
import HandS.Defaults
import HandS.DictTup
import HandS.DictSubView
import HandS.Style
import HandS.Evl
import HandS.SortRule
import HandS.ExcIs
import HandS.ExcValue
import HandS.ExcInit
import HandS.ExcField
import KE.KExcIs
import HandS.ReplaceLit
import PySem.Challenge.RW_drawerdesk_k13_read_refused
set_option Elab.async false
set_option linter.all false
set_option maxRecDepth 100000
set_option maxHeartbeats 4000000
/-! Rules of my own over the hand layer: the views of a dict whose keys are texts, and text times number. -/
namespace DK
open PySem PySem.Spec PyProof.Rows L2
section
variable {X : Cx}
/-- text times number -/
def rMulS : R2 := fun x y H Q => ∃ (z : Str) (n : Int), x = .str z ∧ y = .int n ∧ MulOk z n ∧ Q (.str (Txt.mul z n)) H
theorem op_mulS : OpR X (binaryOp .Mult) rMulS := by
  intro pins s σ H x y v u Q I rx ry h
  obtain ⟨z, n, rfl, rfl, ok, q⟩ := h
  obtain ⟨t, rfl⟩ := rx
  obtain ⟨t', rfl⟩ := ry
  exact SB.mul ok fun t'' k => ⟨.str _, H, I.tok k, ⟨t'', rfl⟩, q⟩

/-- the view d.values(), d.items() of a dict at d -/
def viewV (p d : Addr) : HO := .ext fun h => h.IsValuesView p d
def viewI (p d : Addr) : HO := .ext fun h => h.IsItemsView p d
theorem viewV_ok {P : Program} {w : World} {H : Hp} {h : Heap} {p d : Addr} (e : h.get? p = some { cls := .type "dict_values", data := .fields #[.ref d] }) : ObjOk P w H h p (viewV p d) := by
  refine ⟨⟨_, e, rfl, rfl⟩, ⟨_, e⟩, ?_⟩
  intro h1 h2 x k
  obtain ⟨o, ho, r⟩ := x
  exact ⟨o, k o ho, r⟩
theorem viewI_ok {P : Program} {w : World} {H : Hp} {h : Heap} {p d : Addr} (e : h.get? p = some { cls := .type "dict_items", data := .fields #[.ref d] }) : ObjOk P w H h p (viewI p d) := by
  refine ⟨⟨_, e, rfl, rfl⟩, ⟨_, e⟩, ?_⟩
  intro h1 h2 x k
  obtain ⟨o, ho, r⟩ := x
  exact ⟨o, k o ho, r⟩
def rVals : V → List V → Hp → VK → Prop := fun x xs H Q => ∃ (a : Addr) (kvs : List (Key × V)), x = .ref a ∧ xs = [] ∧ H a = some (.dK kvs) ∧ ∀ p, H p = none → Q (.ref p) (upd H p (viewV p a))
theorem mt_vals : MtR X "dict.values" rVals := by
  intro pins s σ H x xs v us Q I rx rxs h
  obtain ⟨a, kvs, rfl, rfl, ha, q⟩ := h
  cases rx
  cases rxs
  obtain ⟨z, lo, vs, rel, dd⟩ := dk_of I.hok ha
  refine call_meetsIn PySem.F.slot_dict_values dd.typeIs PySem.F.entry_dict_values (PySem.F.args_dict_values_1 _) (meets_dict_values (mixKind X.prog X.w) a lo) ⟨⟨vs, dd⟩, ?_⟩
  have hf : H s.heap.objs.size = none := I.hok.fresh (Nat.le_refl _)
  exact ⟨.ref s.heap.objs.size, upd H s.heap.objs.size (viewV s.heap.objs.size a), I.laid (t' := s.toks) (fun b u e => Heap.get?_push_of_some _ e) (Nat.le_refl _) (viewV_ok (Heap.get?_push_size _ rfl)), rfl, q _ hf⟩
def rItems : V → List V → Hp → VK → Prop := fun x xs H Q => ∃ (a : Addr) (kvs : List (Key × V)), x = .ref a ∧ xs = [] ∧ H a = some (.dK kvs) ∧ ∀ p, H p = none → Q (.ref p) (upd H p (viewI p a))
theorem mt_items : MtR X "dict.items" rItems := by
  intro pins s σ H x xs v us Q I rx rxs h
  obtain ⟨a, kvs, rfl, rfl, ha, q⟩ := h
  cases rx
  cases rxs
  obtain ⟨z, lo, vs, rel, o, es, ep, ho, hx, hdat, _⟩ := dk_of I.hok ha
  refine DT.callItems (es := es) (ep := ep) lo ⟨o, ho, hx, hdat⟩ ?_
  have hf : H s.heap.objs.size = none := I.hok.fresh (Nat.le_refl _)
  exact ⟨.ref s.heap.objs.size, upd H s.heap.objs.size (viewI s.heap.objs.size a), I.laid (t' := s.toks) (fun b u e => Heap.get?_push_of_some _ e) (Nat.le_refl _) (viewI_ok (Heap.get?_push_size _ rfl)), rfl, q _ hf⟩
/-- a view of the values: the source that the library's functions walk -/
theorem src_of {pins : List (Addr × Obj)} {σ : L2.St} {H : Hp} {s : Shared} {p a : Addr} {kvs : List (Key × V)} (I : Inv X pins σ H s) (hp : H p = some (viewV p a)) (ha : H a = some (.dK kvs)) :
    ∃ (vs : List (Key × Value)) (ep : Nat), KV kvs vs ∧ kvs.length ≤ sizeLine ∧ kvs.length = vs.length ∧ (s.heap.IsValuesView p a ∧ s.heap.DictAt (mixKind X.prog X.w) a vs ep) := by
  have view : s.heap.IsValuesView p a := (show ObjOk X.prog X.w H s.heap p (viewV p a) from I.hok p _ hp).1
  obtain ⟨z, lo, vs, rel, dd⟩ := dk_of I.hok ha
  obtain ⟨ep, hat⟩ := dd.dictAt
  exact ⟨vs, ep, rel, z, Paired.length rel, view, hat⟩
theorem kv_snd : ∀ {kvs : List (Key × V)} {vs : List (Key × Value)}, KV kvs vs → Vals (kvs.map (·.2)) (vs.map (·.2))
  | _, _, .nil => .nil
  | _, _, .cons r t => .cons r.2 (kv_snd t)
theorem items_vals {kvs : List (Key × V)} {vs : List (Key × Value)} {acc : List Value} (r : KV kvs vs) (hl : acc.length = vs.length) (h : ∀ (j : Nat) (v : Value), acc[j]? = some v → ∃ k, vs[j]? = some (k, v)) : acc = vs.map (·.2) := by
  refine List.ext_getElem? fun j => ?_
  rw [List.getElem?_map]
  cases e : acc[j]? with
  | none =>
    have hj : vs.length ≤ j := by rw [← hl]; exact List.getElem?_eq_none_iff.mp e
    rw [List.getElem?_eq_none_iff.mpr hj]
    rfl
  | some v =>
    obtain ⟨k, hk⟩ := h j v e
    rw [hk]
    rfl
/-- list(d.values()) -/
def rListV : List V → Hp → VK → Prop := fun xs H Q => ∃ (p a : Addr) (kvs : List (Key × V)), xs = [.ref p] ∧ H p = some (viewV p a) ∧ H a = some (.dK kvs) ∧ ∀ q, H q = none → Q (.ref q) (upd H q (.lst (kvs.map (·.2))))
theorem call_listV (hc : X.calm = true) : CallR X (.type "list") rListV := by
  intro pins s σ H xs us Q I r h
  obtain ⟨p, a, kvs, rfl, hp, ha, q⟩ := h
  obtain rfl := Vals.ref1 r
  obtain ⟨vs, ep, rel, z, hl, src⟩ := src_of I hp ha
  refine PySem.W.kdl_call (PySem.W.kdl_values (knd := mixKind X.prog X.w) (kvs := vs) (ep := ep)) (I.ok.hd hc) src (by rw [← hl]; exact z) fun h' tk acc c hk hS hacc => ?_
  have ea : acc.toList = vs.map (·.2) := items_vals rel (by rw [Array.length_toList]; exact hacc.1) fun j v e => hacc.2 j v (by rw [← Array.getElem?_toList]; exact e)
  refine ⟨.ref s.heap.objs.size, upd H s.heap.objs.size (.lst (kvs.map (·.2))), I.laid hk (Nat.le_refl _) (show ObjOk X.prog X.w _ _ _ (.lst (kvs.map (·.2))) from ⟨by rw [List.length_map]; exact z, acc.toList, c, by rw [ea]; exact kv_snd rel, by rw [Array.toArray_toList]; exact hS⟩), rfl, q _ (I.hok.fresh (Nat.le_refl _))⟩
end
end DK

set_option Elab.async false
set_option linter.all false
set_option maxRecDepth 100000
set_option maxHeartbeats 4000000
namespace DK
open PySem PySem.Spec PyProof.Rows L2
theorem pre_sum (ns : List Int) : ∀ j : Nat, PySem.preSum (fun i => ns.getD i 0) j = (ns.take j).sum
  | 0 => by simp [PySem.preSum]
  | j + 1 => by
    rw [PySem.preSum, pre_sum ns j]
    cases e : ns[j]? with
    | none =>
      have hj : ns.length ≤ j := List.getElem?_eq_none_iff.mp e
      rw [List.take_of_length_le hj, List.take_of_length_le (Nat.le_succ_of_le hj), List.getD_eq_getElem?_getD, e]
      simp
    | some z =>
      obtain ⟨hj, ez⟩ := List.getElem?_eq_some_iff.mp e
      rw [List.take_succ_eq_append_getElem hj, List.sum_append, List.getD_eq_getElem?_getD, e, ez]
      simp
section
variable {X : Cx} {pins : List (Addr × Obj)} {σ : L2.St} {H : Hp} {s : Shared}
/-- the i-th value of a walked view, whole numbers -/
theorem val_at {kvs : List (Key × V)} {vs : List (Key × Value)} {ns : List Int} (rel : KV kvs vs) (hns : kvs.map (·.2) = ns.map V.int) {i : Nat} {v : Value} (h : ∃ k, vs[i]? = some (k, v)) : ∃ t : Tok, v = Value.int (ns.getD i 0) t := by
  obtain ⟨k, hk⟩ := h
  have r := kv_snd rel
  have e2 : (vs.map (·.2))[i]? = some v := by rw [List.getElem?_map, hk]; rfl
  rw [hns] at r
  have hl : (ns.map V.int).length = (vs.map (·.2)).length := r.length
  have hi : i < ns.length := by
    have := (List.getElem?_eq_some_iff.mp e2).1
    rw [← hl, List.length_map] at this
    exact this
  have e1 : (ns.map V.int)[i]? = some (V.int ns[i]) := by rw [List.getElem?_map, List.getElem?_eq_getElem hi]; rfl
  obtain ⟨u, hu, ru⟩ := r.get e1
  rw [e2] at hu
  cases hu
  obtain ⟨t, et⟩ := ru
  refine ⟨t, ?_⟩
  rw [et, List.getD_eq_getElem?_getD, List.getElem?_eq_getElem hi]
  rfl
theorem len_at {kvs : List (Key × V)} {ns : List Int} (hns : kvs.map (·.2) = ns.map V.int) : kvs.length = ns.length := by
  have e := congrArg List.length hns
  rw [List.length_map, List.length_map] at e
  exact e
/-- sum(d.values()) -/
def rSumV : List V → Hp → VK → Prop := fun xs H Q => ∃ (p a : Addr) (kvs : List (Key × V)) (ns : List Int), xs = [.ref p] ∧ H p = some (viewV p a) ∧ H a = some (.dK kvs) ∧ kvs.map (·.2) = ns.map V.int ∧ Q (.int ns.sum) H
theorem cr_sumV (hc : X.calm = true) : CallR X (.builtin "sum") rSumV := by
  intro pins s σ H xs us Q I r h
  obtain ⟨p, a, kvs, ns, rfl, hp, ha, hns, q⟩ := h
  obtain rfl := Vals.ref1 r
  obtain ⟨vs, ep, rel, z, hl, src⟩ := src_of I hp ha
  have K := PySem.W.kdl_values (prog := X.prog) (w := X.w) (r := p) (d := a) (knd := mixKind X.prog X.w) (kvs := vs) (ep := ep)
  refine PySem.call_sum_walkAnyS ?_
  obtain ⟨oI, St, hit, W, st⟩ := K.iter X.A.in1 s (show X.A.in1.handled = none from I.ok.hd hc) src
  refine hit _ _ ⟨s.heap.objs.size, _, _, _, vs.length, _, _, fun i => ns.getD i 0, rfl, W.toS, st, fun b hb => ?_, fun i v hv => val_at rel hns hv, fun s' t' hm => ?_⟩
  · show b < (s.heap.push oI).objs.size
    rw [size_push']
    rcases List.mem_cons.mp hb with e | hb
    · rw [e]
      exact Nat.lt_succ_self _
    · rw [List.mem_singleton.mp hb]
      exact Nat.lt_succ_of_lt (K.there _ src).2
  · have hk : ∀ b o, s.heap.get? b = some o → s'.heap.get? b = some o := fun b o e =>
      hm.heap b o (fun hI => absurd (Heap.lt_size e) (by rw [List.mem_singleton.mp hI]; exact Nat.lt_irrefl _)) (Heap.get?_push_of_some _ e)
    rw [Moved.eq_with hm]
    have e : PySem.preSum (fun i => ns.getD i 0) vs.length = ns.sum := by
      rw [pre_sum, List.take_of_length_le (by rw [← hl, len_at hns]; exact Nat.le_refl _)]
    rw [e]
    exact ⟨.int ns.sum, H, I.kept hk, ⟨t', rfl⟩, q⟩
/-- min(d.values()) -/
def rMinV : List V → Hp → VK → Prop := fun xs H Q => ∃ (p a : Addr) (kvs : List (Key × V)) (ns : List Int), xs = [.ref p] ∧ H p = some (viewV p a) ∧ H a = some (.dK kvs) ∧ kvs.map (·.2) = ns.map V.int ∧ 0 < ns.length ∧ ∀ m, m ∈ ns → (∀ y, y ∈ ns → m ≤ y) → Q (.int m) H
theorem cr_minV (hc : X.calm = true) : CallR X (.builtin "min") rMinV := by
  intro pins s σ H xs us Q I r h
  obtain ⟨p, a, kvs, ns, rfl, hp, ha, hns, hne, q⟩ := h
  obtain rfl := Vals.ref1 r
  obtain ⟨vs, ep, rel, z, hl, src⟩ := src_of I hp ha
  have hln : vs.length = ns.length := by rw [← hl]; exact len_at hns
  have K := PySem.W.kdl_values (prog := X.prog) (w := X.w) (r := p) (d := a) (knd := mixKind X.prog X.w) (kvs := vs) (ep := ep)
  refine PySem.call_min_walk ?_
  obtain ⟨oI, St, hit, W, st⟩ := K.iter X.A.in1 s (show X.A.in1.handled = none from I.ok.hd hc) src
  refine hit _ _ ⟨s.heap.objs.size, _, _, vs.length, _, _, fun i j => decide (ns.getD i 0 < ns.getD j 0), rfl, W, st, fun b hb => ?_, by omega, CmpOf.ints_lt (fun i => ns.getD i 0) (fun i v hv => val_at rel hns hv), fun v h' tk hv' hk => ?_⟩
  · show b < (s.heap.push oI).objs.size
    rw [size_push']
    rcases List.mem_cons.mp hb with e | hb
    · rw [e]
      exact Nat.lt_succ_self _
    · rw [List.mem_singleton.mp hb]
      exact Nat.lt_succ_of_lt (K.there _ src).2
  · have hk2 : ∀ b o, s.heap.get? b = some o → h'.get? b = some o := fun b o e =>
      hk b o (fun hI => absurd (Heap.lt_size e) (by rw [List.mem_singleton.mp hI]; exact Nat.lt_irrefl _)) (Heap.get?_push_of_some _ e)
    obtain ⟨t, et⟩ := val_at rel hns hv'
    obtain ⟨m1, m2⟩ := PySem.argBest_lt (fun i => ns.getD i 0) (vs.length - 1)
    have hi : argBest (fun i j => decide (ns.getD i 0 < ns.getD j 0)) (vs.length - 1) < ns.length := by
      have m1' : argBest (fun i j => decide (ns.getD i 0 < ns.getD j 0)) (vs.length - 1) ≤ vs.length - 1 := m1
      omega
    generalize argBest (fun i j => decide (ns.getD i 0 < ns.getD j 0)) (vs.length - 1) = b at et m2 hi
    rw [et]
    refine ⟨.int (ns.getD b 0), H, I.kept hk2, ⟨t, rfl⟩, q _ ?_ fun y hy => ?_⟩
    · rw [List.getD_eq_getElem?_getD, List.getElem?_eq_getElem hi]
      exact List.getElem_mem hi
    · obtain ⟨j, hj⟩ := List.mem_iff_getElem?.mp hy
      have hjl : j < ns.length := (List.getElem?_eq_some_iff.mp hj).1
      have e := m2 j (by omega)
      have e2 : ns.getD j 0 = y := by rw [List.getD_eq_getElem?_getD, hj]; rfl
      rw [← e2]
      exact e
/-- what a source gives is collected; the collector's own list stands at the heap's end -/
theorem collect_src {prog : Program} {w : World} {A : Around} {E : Value → Shared → Prop} {s : Shared} {T : String} {r d : Addr} {n : Nat} {P : Nat → Value → Prop} {OK : Heap → Prop} {R : List Value → Shared → Prop}
    (K : PySem.W.KdlSrc prog w T r d n P OK) (hh : A.handled = none) (hok : OK s.heap) (hn : n ≤ sizeLine)
    (h : ∀ (h' : Heap) (tk : Nat) (acc : Array Value), (∀ b o, s.heap.get? b = some o → h'.get? b = some o) → s.heap.objs.size < h'.objs.size → ItemsOf P acc n → R acc.toList { s with heap := h', toks := tk }) :
    wpAny (model prog w) A (collect (.ref r)) R E s := by
  have lt := K.there _ hok
  unfold collect
  refine wpAny_bind (wpAny_runValue (codeAny_builtin entry_proto_collect' ?_))
  rw [Around.under_plainId PySem.F.plain_proto_collect _]
  show wpAny _ A.in1 (newList [] >>= fun l => again (.builtin "list.__iadd__" ⟨[l, .ref r], []⟩)) _ _ s
  refine wpAny_bind (wpAny_newObj_type ?_)
  refine wpAny_pure ⟨plainId_quiet PySem.F.plain_list_iadd _, codeAny_builtin entry_list_iadd' ?_⟩
  rw [Around.under_plainId PySem.F.plain_list_iadd _]
  have s1 : (s.heap.push { cls := .type "list", data := .seq ([] : List Value).toArray }).get? s.heap.objs.size = some { cls := .type "list", data := .seq #[] } := Heap.get?_push_size _ rfl
  show wpAny _ A.in1 (Builtin.List.listExtendWith (.ref s.heap.objs.size) (.ref r) (.ref s.heap.objs.size)) _ _ _
  have ext := PySem.W.kdl_extend (A := A) (s := { s with heap := s.heap.push { cls := .type "list", data := .seq ([] : List Value).toArray } })
    (R := fun (q : Result) (s' : Shared) => ∃ (h' : Heap) (tk : Nat) (acc' : Array Value) (c' : Nat), q = .ok (.ret (.ref s.heap.objs.size)) ∧ s' = { s with heap := h', toks := tk } ∧
      (∀ b o, s.heap.get? b = some o → h'.get? b = some o) ∧ h'.get? s.heap.objs.size = some { cls := .type "list", dict := none, data := .seq acc' c', slots := #[] } ∧ ItemsOf P acc' n)
    K hh (K.keep _ _ hok fun b _ o e => Heap.get?_push_of_some _ e) s.heap.objs.size (Nat.ne_of_gt lt.1) (Nat.ne_of_gt lt.2) (.ref s.heap.objs.size) 0 s1
    (fun h' tk acc' c' hk hS' hacc => ⟨h', tk, acc', c', rfl, rfl, fun b o e => hk b o (Nat.ne_of_lt (Heap.lt_size e)) (Heap.get?_push_of_some _ e), hS', hacc⟩) hn
  refine wpAny_mono ext (fun fin s' x => ?_) fun e s' x => ?_
  · cases fin with
    | done f =>
      obtain ⟨h', tk, acc', c', e, rfl, hk, hS', hacc⟩ := x
      cases e
      show wpAny _ A (load s.heap.objs.size >>= _) _ _ _
      exact wpAny_bind (wpAny_load hS' (wpAny_pure (h h' tk acc' hk (Heap.lt_size hS') hacc)))
    | again c1 =>
      refine ⟨x.1, codeAny_mono x.2 fun q s2 y => ?_⟩
      obtain ⟨h', tk, acc', c', rfl, rfl, hk, hS', hacc⟩ := y
      show wpAny _ A (load s.heap.objs.size >>= _) _ _ _
      exact wpAny_bind (wpAny_load hS' (wpAny_pure (h h' tk acc' hk (Heap.lt_size hS') hacc)))
  · obtain ⟨_, _, _, _, e', _⟩ := x
    cases e'
/-- sorted(d.values()), sorted(d.values(), reverse=b) -/
theorem sorted_view {b : Bool} {kw : List (Str × Value)} {p a : Addr} {kvs : List (Key × V)} {ns : List Int} {Q : VK} (hc : X.calm = true) (I : Inv X pins σ H s) (hp : H p = some (viewV p a)) (ha : H a = some (.dK kvs)) (hns : kvs.map (·.2) = ns.map V.int)
    (hk : ∀ a, Builtin.«list.sort» ⟨[.ref a], kw⟩ = Builtin.«list.sort» ⟨[.ref a], [(Str.ofString "reverse", .bool b)]⟩) (ha1 : argsOk "sorted" ⟨[.ref p], kw⟩) (ha2 : ∀ a, argsOk "list.sort" ⟨[a], kw⟩)
    (q : ∀ (ns' : List Int) (l : Addr), ns'.Perm ns → OrdB b ns' → H l = none → Q (.ref l) (upd H l (.lst (ns'.map V.int)))) : wpAny (model X.prog X.w) X.A (call (.builtin "sorted") [.ref p] kw) (EP X pins σ Q) X.xe s := by
  obtain ⟨vs, ep, rel, z, hl, src⟩ := src_of I hp ha
  have hln : vs.length = ns.length := by rw [← hl]; exact len_at hns
  refine call_function_entry_kw kind_sorted plain_sorted entry_sorted ha1 ?_
  unfold Builtin.«sorted»
  refine wpAny_bind (m := checkCount "sorted" 1 1 _) (wpAny_pure ?_)
  refine wpAny_bind (collect_src (A := X.A.in1) (PySem.W.kdl_values (knd := mixKind X.prog X.w) (kvs := vs) (ep := ep)) (show X.A.in1.handled = none from I.ok.hd hc) src (by rw [← hl]; exact z) fun h' tk acc hkp hlt hacc => ?_)
  have ea : acc.toList = vs.map (·.2) := items_vals rel (by rw [Array.length_toList]; exact hacc.1) fun j v e => hacc.2 j v (by rw [← Array.getElem?_toList]; exact e)
  have rv : Vals (ns.map V.int) acc.toList := by rw [ea, ← hns]; exact kv_snd rel
  have hi := rv.ints
  have hz : acc.toList.length ≤ sizeLine := by rw [ea, List.length_map, ← hl]; exact z
  refine wpAny_bind (wpAny_newList ?_ hz)
  have hoL : (h'.push { cls := .type "list", data := .seq acc.toList.toArray }).get? h'.objs.size = some (seqObj "list" acc.toList.toArray 0) := Heap.get?_push_size _ rfl
  refine wpAny_bind (wpAny_holding (wpAny_call_entry_kw slot_list_sort ⟨_, hoL, rfl⟩ entry_list_sort ?_ (ha2 _)))
  rw [hk]
  refine SrtR.list_sort_ordR SrtO.swo_int hoL hz (fun h2 => SrtO.ints_sortable hi h2) fun out h1 h2 => ⟨_, rfl, ?_⟩
  obtain ⟨ns', k1, k2, k3⟩ := SrtR.ints_outR hi h1 h2
  obtain ⟨eF, heF⟩ := PyProof.Rows.sortedHeap_at (vs := acc.toList) (out := if b = true then out.toArray.reverse else out.toArray) hoL
  have kF : ∀ (c : Addr) o, s.heap.get? c = some o → (sortedHeap (h'.push { cls := .type "list", data := .seq acc.toList.toArray }) h'.objs.size acc.toList (if b = true then out.toArray.reverse else out.toArray)).get? c = some o := fun c o e => by
    have lb : c < h'.objs.size := Heap.lt_size (hkp c o e)
    exact (PyProof.Rows.sortedHeap_old (Nat.ne_of_lt lb) (by rw [size_push']; exact Nat.lt_succ_of_lt lb)).trans (Heap.get?_push_of_some _ (hkp c o e))
  have hn0 : H h'.objs.size = none := I.hok.fresh (Nat.le_of_lt hlt)
  have hlen : (ns'.map V.int).length ≤ sizeLine := by
    rw [List.length_map, k2.length_eq, ← len_at hns]
    exact z
  have e0 : ((if b = true then out.toArray.reverse else out.toArray).toList).toArray = (if b = true then out.toArray.reverse else out.toArray) := by rw [Array.toArray_toList]
  refine wpAny_pure ⟨_, rfl, .ref h'.objs.size, upd H h'.objs.size (.lst (ns'.map V.int)), I.laid (t' := tk) kF (Nat.le_of_lt hlt) ⟨hlen, _, eF, vals_of_ints k1, by rw [e0]; exact heF⟩, rfl, q _ _ k2 k3 hn0⟩
/-- sorted(d.values()) -/
def rSortedV : List V → Hp → VK → Prop := fun xs H Q => ∃ (p a : Addr) (kvs : List (Key × V)) (ns : List Int), xs = [.ref p] ∧ H p = some (viewV p a) ∧ H a = some (.dK kvs) ∧ kvs.map (·.2) = ns.map V.int ∧
  ∀ (ns' : List Int) (l : Addr), ns'.Perm ns → ns'.Pairwise (· ≥ ·) → H l = none → Q (.ref l) (upd H l (.lst (ns'.map V.int)))
/-- sorted(d.values(), reverse=True) -/
def rSortedVR : List V → List V → Hp → VK → Prop := fun xs zs H Q => zs = [.bl true] ∧ rSortedV xs H Q
theorem cr_sortedVR (hc : X.calm = true) : CallRK X (.builtin "sorted") [Str.ofString "reverse"] rSortedVR := by
  intro pins s σ H xs zs us ws Q I r rz h
  obtain ⟨rfl, p, a, kvs, ns, rfl, hp, ha, hns, q⟩ := h
  obtain rfl := Vals.ref1 r
  obtain ⟨w1, rfl, e1⟩ := vals1 rz
  obtain rfl : w1 = Value.bool true := e1
  exact sorted_view (b := true) hc I hp ha hns (fun _ => rfl) (PyProof.Rows.args_sorted_rev _ _) (fun _ => PyProof.Rows.args_list_sort_rev _ _) q
def rSortedVU : List V → Hp → VK → Prop := fun xs H Q => ∃ (p a : Addr) (kvs : List (Key × V)) (ns : List Int), xs = [.ref p] ∧ H p = some (viewV p a) ∧ H a = some (.dK kvs) ∧ kvs.map (·.2) = ns.map V.int ∧
  ∀ (ns' : List Int) (l : Addr), ns'.Perm ns → ns'.Pairwise (· ≤ ·) → H l = none → Q (.ref l) (upd H l (.lst (ns'.map V.int)))
theorem cr_sortedV (hc : X.calm = true) : CallR X (.builtin "sorted") rSortedVU := by
  intro pins s σ H xs us Q I r h
  obtain ⟨p, a, kvs, ns, rfl, hp, ha, hns, q⟩ := h
  obtain rfl := Vals.ref1 r
  exact sorted_view (b := false) (kw := []) hc I hp ha hns (fun _ => rfl) (args_sorted1 _) (fun _ => PyProof.Rows.args_list_sort _) q
end
end DK

set_option Elab.async false
set_option linter.all false
set_option maxRecDepth 100000
set_option maxHeartbeats 4000000
namespace DK
open PySem PySem.Spec PyProof.Rows L2 PySem.W
/-! sorted(d.items()), the keys texts, the values whole numbers -/
abbrev CM := List (Str × Int)
def kvc (c : CM) : List (Key × V) := c.map fun e => (Sum.inr e.1, V.int e.2)
/-- x stands before y -/
def slt (x y : Str) : Bool := decide (x.cps.toList < y.cps.toList)
theorem slt_irr (x : Str) : slt x x = false := decide_eq_false (List.lt_irrefl _)
theorem slt_asym (x y : Str) (h : slt x y = true) : slt y x = false := by
  refine decide_eq_false fun h2 => ?_
  exact List.lt_irrefl _ (List.lt_trans (of_decide_eq_true h) h2)
theorem cps_inj {x y : Str} (h : x.cps.toList = y.cps.toList) : x = y := by
  cases x with
  | mk a =>
    cases y with
    | mk b =>
      congr 1
      exact Array.toList_inj.mp h
theorem slt_tot (x y : Str) (h1 : slt x y = false) (h2 : slt y x = false) : x = y := by
  have a := of_decide_eq_false h1
  have b := of_decide_eq_false h2
  exact cps_inj (List.le_antisymm (List.not_lt.mp b) (List.not_lt.mp a))
theorem slt_tr (x y z : Str) (h1 : slt y x = false) (h2 : slt z y = false) : slt z x = false := by
  have a := List.not_lt.mp (of_decide_eq_false h1)
  have b := List.not_lt.mp (of_decide_eq_false h2)
  exact decide_eq_false (List.not_lt.mpr (List.le_trans a b))
/-- the pair that is read off the heap -/
def rdP (h : Heap) (v : Value) : Str × Int := match v with
  | .ref b => (match h.get? b with
    | some o => (match o.data with
      | .seq xs _ => (match xs.toList with
        | [.str x _, .int n _] => (x, n)
        | _ => (Str.empty, 0))
      | _ => (Str.empty, 0))
    | none => (Str.empty, 0))
  | _ => (Str.empty, 0)
/-- at b stands the tuple of that text and that number -/
def PrAt (h : Heap) (b : Addr) (e : Str × Int) : Prop := ∃ t u, h.get? b = some { cls := .type "tuple", data := .seq #[.str e.1 t, .int e.2 u] }
theorem PrAt.rd {h : Heap} {b : Addr} {e : Str × Int} (x : PrAt h b e) : rdP h (.ref b) = e := by
  obtain ⟨t, u, g⟩ := x
  simp only [rdP, g]
section
variable {prog : Program} {w : World} {A : Around} {s : Shared}
theorem firsts_pr {h : Heap} : ∀ vs : List Value, (∀ v ∈ vs, ∃ b e, v = .ref b ∧ PrAt h b e) → ∃ fs : List Value, KatTups h vs fs ∧ fs.length = vs.length ∧ ∀ f ∈ fs, ∃ x t, f = Value.str x t
  | [], _ => ⟨[], KatTups.nil, rfl, fun f hf => by simp at hf⟩
  | v :: vs, x => by
    obtain ⟨fs, k, hl, hi⟩ := firsts_pr vs fun u hu => x u (List.mem_cons_of_mem _ hu)
    obtain ⟨b, e, rfl, t, u, g⟩ := x v (List.mem_cons_self ..)
    refine ⟨.str e.1 t :: fs, KatTups.cons g rfl rfl rfl k, by rw [List.length_cons, List.length_cons, hl], fun f hf => ?_⟩
    rcases List.mem_cons.mp hf with rfl | hf
    · exact ⟨e.1, t, rfl⟩
    · exact hi f hf
/-- such pairs, equal keys having equal values, may be sorted by their keys -/
theorem pr_sortable {a : Addr} {vs : List Value} {k : Value → Str × Int} (h2 : 2 ≤ vs.length) (hv : ∀ v ∈ vs, ∃ b, v = .ref b ∧ b ≠ a ∧ PrAt s.heap b (k v)) (hu : ∀ v ∈ vs, ∀ u ∈ vs, (k v).1 = (k u).1 → (k v).2 = (k u).2) :
    SrtO.SortableO prog w A s a vs fun v u => slt (k v).1 (k u).1 := by
  intro h' keep
  have hv' : ∀ v ∈ vs, ∃ b, v = .ref b ∧ PrAt h' b (k v) := fun v hm => by
    obtain ⟨b, e, ne, t, u, g⟩ := hv v hm
    exact ⟨b, e, t, u, keep b _ ne g⟩
  obtain ⟨fs, kt, hl, hi⟩ := firsts_pr vs fun v hm => by
    obtain ⟨b, e, p⟩ := hv' v hm
    exact ⟨b, k v, e, p⟩
  refine ⟨tuples' (Value.type "str" != Value.type "tuple"), fun Q E hq => ?_, ?_⟩
  · refine kat_kind (s := { s with heap := h' }) (T := Value.type "str") kt (by omega) (fun f hf => ?_) (by rfl) hq
    obtain ⟨x, t, rfl⟩ := hi f hf
    exact PySem.W.Looks.of_pure rfl
  · have hb : (Value.type "str" != Value.type "tuple") = true := by decide
    rw [hb]
    intro p q hp hq
    obtain ⟨b1, e1, t1, u1, g1⟩ := hv' _ hp
    obtain ⟨b2, e2, t2, u2, g2⟩ := hv' _ hq
    have hu' := hu _ hp _ hq
    show wpAny _ _ (keyLt' (tuples' true) p.1 q.1) (fun r s' => s' = { s with heap := h' } ∧ r = slt (k p.1).1 (k q.1).1) _ _
    revert g1 g2 hu'
    generalize k p.1 = z1
    generalize k q.1 = z2
    intro g1 g2 hu'
    rw [e1, e2]
    refine kat_lt (s := { s with heap := h' }) g1 rfl g2 rfl ?_
    show KatLex prog w A true false _ [(Value.str z1.1 t1, Value.str z2.1 t2), (Value.int z1.2 u1, Value.int z2.2 u2)] 0 _
    refine kat_cons (wpAny_eqBool_str ?_)
    refine kat_go (fun e0 => ?_) (fun e0 => ?_)
    · have ez : z1.1 = z2.1 := of_decide_eq_true e0
      refine kat_yes (kat_cons (wpAny_eqBool_int ?_))
      have en : (z1.2 == z2.2) = true := by rw [hu' ez]; simp
      rw [en]
      refine kat_yes (kat_nil ⟨rfl, ?_⟩)
      rw [ez, slt_irr]
    · exact kat_no (oneLt_str ⟨rfl, rfl⟩)
end
end DK

set_option Elab.async false
set_option linter.all false
set_option maxRecDepth 100000
set_option maxHeartbeats 4000000
namespace DK
open PySem PySem.Spec PyProof.Rows L2 PySem.W
/-- from an old heap to a new one all that was tracked stands -/
abbrev Ex (H H' : Hp) : Prop := Evl.Ex H H'
def PrsAt (H : Hp) (ts : List Addr) (c : CM) : Prop := Paired (fun (t : Addr) (e : Str × Int) => H t = some (.tup [.str e.1, .int e.2])) ts c
/-- sorted by their texts -/
def Asc (c : CM) : Prop := c.Pairwise fun e f => slt f.1 e.1 = false
theorem keys_kvc (c : CM) : (kvc c).map (·.1) = c.map fun e => Sum.inr e.1 := by
  unfold kvc
  rw [List.map_map]
  rfl
def rSortedI : List V → Hp → VK → Prop := fun xs H Q => ∃ (p a : Addr) (c : CM), xs = [.ref p] ∧ H p = some (viewI p a) ∧ H a = some (.dK (kvc c)) ∧ (c.map (·.1)).Nodup ∧
  ∀ (H' : Hp) (l : Addr) (ts : List Addr) (c' : CM), Ex H H' → H l = none → (∀ t ∈ ts, H t = none) → c'.Perm c → Asc c' → H' l = some (.lst (ts.map V.ref)) → PrsAt H' ts c' → Q (.ref l) H'
theorem pairs_ix {P : Program} {w : World} {c : CM} {vs : List (Key × Value)} (r : KV (kvc c) vs) {es : List DictEntry} (p : Pairs (mixKind P w) es vs) {j : Nat} {e : DictEntry} (he : es[j]? = some e) :
    ∃ z t u, c[j]? = some z ∧ e.key = .str z.1 t ∧ e.val = .int z.2 u := by
  have hl : (kvc c).length = vs.length := Paired.length r
  have hl2 : es.length = vs.length := p.length
  have hj : j < es.length := (List.getElem?_eq_some_iff.mp he).1
  unfold kvc at hl
  rw [List.length_map] at hl
  have hjc : j < c.length := by omega
  have e1 : (kvc c)[j]? = some (Sum.inr c[j].1, V.int c[j].2) := by
    unfold kvc
    rw [List.getElem?_map, List.getElem?_eq_getElem hjc]
    rfl
  obtain ⟨q, hq, e2, ru⟩ := LiI.paired_get r e1
  obtain ⟨h1, h2⟩ := p.get? he (k := q.1) (v := q.2) hq
  obtain ⟨u, eu⟩ := ru
  have h1' : keyIs q.1 e.key = true := h1
  have e2' : q.1 = (Sum.inr c[j].1 : Key) := e2.symm
  rw [e2'] at h1'
  obtain ⟨t, et⟩ := Value.isStrOf_shape (x := c[j].1) (v := e.key) h1'
  exact ⟨c[j], t, u, List.getElem?_eq_getElem hjc, et, by rw [h2, eu]⟩
theorem nodup_val {c : CM} (hn : (c.map (·.1)).Nodup) : ∀ z ∈ c, ∀ y ∈ c, z.1 = y.1 → z.2 = y.2 := by
  intro z hz y hy e
  obtain ⟨i, hi⟩ := List.mem_iff_getElem?.mp hz
  obtain ⟨j, hj⟩ := List.mem_iff_getElem?.mp hy
  have h1 : (c.map (·.1))[i]? = some z.1 := by rw [List.getElem?_map, hi]; rfl
  have h2 : (c.map (·.1))[j]? = some z.1 := by rw [List.getElem?_map, hj, e]; rfl
  have : i = j := nd_ix hn h1 h2
  subst this
  rw [hi] at hj
  cases hj
  rfl
section
variable {X : Cx}
theorem cr_sortedI (hc : X.calm = true) : CallR X (.builtin "sorted") rSortedI := by
  intro pins s σ H xs us Q I r h
  obtain ⟨p, a, c, rfl, hp, ha, hn, q⟩ := h
  obtain rfl := Vals.ref1 r
  have view : s.heap.IsItemsView p a := (show ObjOk X.prog X.w H s.heap p (viewI p a) from I.hok p _ hp).1
  obtain ⟨z, lo, vs, rel, o, es, ep, ho, hx, hdat, _, prs, _⟩ := dk_of I.hok ha
  have hes : es.size = c.length := by
    have h1 := prs.length
    have h2 : (kvc c).length = vs.length := Paired.length rel
    unfold kvc at h2
    rw [List.length_map] at h2
    rw [Array.length_toList] at h1
    omega
  have zc : c.length ≤ sizeLine := by
    unfold kvc at z
    rw [List.length_map] at z
    exact z
  refine DT.sortedI (es := es) (ep := ep) (I.ok.hd hc) view ⟨o, ho, hx, hdat⟩ (by rw [hes]; exact zc) fun h' tk as hk hlt hl hG => ?_
  have lac : as.length = c.length := by omega
  have ndA : as.Nodup := List.Pairwise.imp (fun h => Nat.ne_of_lt h) hG.rise
  -- what each new tuple holds
  have pr : ∀ (j : Nat) (b : Addr), as[j]? = some b → ∃ e, c[j]? = some e ∧ PrAt h' b e := by
    intro j b hj
    obtain ⟨en, he, hg⟩ := hG.pairs j b hj
    obtain ⟨e, t, u, hcj, k1, k2⟩ := pairs_ix rel prs (by rw [Array.getElem?_toList]; exact he)
    exact ⟨e, hcj, t, u, by rw [hg, k1, k2]⟩
  have hob : (h'.push { cls := .type "list", data := .seq (as.map Value.ref).toArray }).get? h'.objs.size = some (seqObj "list" (as.map Value.ref).toArray 0) := Heap.get?_push_size _ rfl
  have ne0 : ∀ b o, h'.get? b = some o → b ≠ h'.objs.size := fun b o e => Nat.ne_of_lt (Heap.lt_size e)
  have ka : ∀ b o, h'.get? b = some o → (h'.push { cls := .type "list", data := .seq (as.map Value.ref).toArray }).get? b = some o := fun b o e => Heap.get?_push_of_some _ e
  generalize h'.push { cls := .type "list", data := .seq (as.map Value.ref).toArray } = h2 at hob ka ⊢
  have prv : ∀ v ∈ as.map Value.ref, ∃ b, v = .ref b ∧ b ≠ h'.objs.size ∧ PrAt h2 b (rdP h2 v) ∧ rdP h2 v ∈ c := by
    intro v hv
    obtain ⟨b, hb, rfl⟩ := List.mem_map.mp hv
    obtain ⟨j, hj⟩ := List.mem_iff_getElem?.mp hb
    obtain ⟨e, he, t, u, g⟩ := pr j b hj
    have p2 : PrAt h2 b e := ⟨t, u, ka _ _ g⟩
    refine ⟨b, rfl, ne0 _ _ g, ?_, ?_⟩
    · rw [p2.rd]
      exact p2
    · rw [p2.rd]
      exact List.mem_of_getElem? he
  have rdj : ∀ (j : Nat) (b : Addr), as[j]? = some b → c[j]? = some (rdP h2 (.ref b)) := by
    intro j b hj
    obtain ⟨e, he, t, u, g⟩ := pr j b hj
    have p2 : PrAt h2 b e := ⟨t, u, ka _ _ g⟩
    rw [p2.rd]
    exact he
  have ecA : c = as.map fun b => rdP h2 (.ref b) := by
    refine List.ext_getElem? fun j => ?_
    rw [List.getElem?_map]
    cases e : as[j]? with
    | none =>
      rw [List.getElem?_eq_none_iff.mpr (by rw [← lac]; exact List.getElem?_eq_none_iff.mp e)]
      rfl
    | some b =>
      rw [rdj j b e]
      rfl
  refine wpAny_call_entry PyProof.Rows.slot_list_sort ⟨_, hob, rfl⟩ PyProof.Rows.entry_list_sort ?_ (PyProof.Rows.args_list_sort _)
  refine SrtO.list_sort_ord (s := { s with heap := h2, toks := tk }) (ltv := fun v u => slt (rdP h2 v).1 (rdP h2 u).1) ⟨fun x y => slt_asym _ _, fun x y z => slt_tr _ _ _⟩ hob (by rw [List.length_map, lac]; exact zc) (fun hh2 => ?_) fun out o1 o2 => ⟨.none, rfl, ?_⟩
  · refine pr_sortable (s := { s with heap := h2, toks := tk }) (k := rdP h2) hh2 (fun v hv => ?_) fun v hv u hu e => ?_
    · obtain ⟨b, e1, e2, e3, _⟩ := prv v hv
      exact ⟨b, e1, e2, e3⟩
    · obtain ⟨_, _, _, _, m1⟩ := prv v hv
      obtain ⟨_, _, _, _, m2⟩ := prv u hu
      exact nodup_val hn _ m1 _ m2 e
  · show EP X pins σ Q (.ref h'.objs.size) { s with heap := sortedHeap h2 h'.objs.size (as.map Value.ref) out.toArray, toks := tk }
    have pm : out.Perm (as.map Value.ref) := o2.perm
    obtain ⟨ts, pts, ets⟩ := perm_lift Value.ref pm as rfl
    have hts : ∀ t ∈ ts, t ∈ as := fun t ht => pts.mem_iff.mp ht
    have kF : ∀ (b : Addr) o, b ≠ h'.objs.size → h2.get? b = some o → (sortedHeap h2 h'.objs.size (as.map Value.ref) out.toArray).get? b = some o := fun b o hb e => (PyProof.Rows.sortedHeap_old hb (Heap.lt_size e)).trans e
    have kS : ∀ (b : Addr) o, s.heap.get? b = some o → (sortedHeap h2 h'.objs.size (as.map Value.ref) out.toArray).get? b = some o := fun b o e => kF b o (ne0 _ _ (hk b o e)) (ka _ _ (hk b o e))
    obtain ⟨eF, heF⟩ := PyProof.Rows.sortedHeap_at (vs := as.map Value.ref) (out := out.toArray) hob
    have I1 : Inv X pins σ H { s with heap := sortedHeap h2 h'.objs.size (as.map Value.ref) out.toArray, toks := tk } := I.kept (t' := tk) kS
    have hn0 : H h'.objs.size = none := I.hok.fresh (Nat.le_of_lt hlt)
    have hlen : (ts.map V.ref).length ≤ sizeLine := by rw [List.length_map, pts.length_eq, lac]; exact zc
    have rv : Vals (ts.map V.ref) out := by rw [← ets]; exact LiI.vals_refs ts
    have I2 : Inv X pins σ (upd H h'.objs.size (.lst (ts.map V.ref))) { s with heap := sortedHeap h2 h'.objs.size (as.map Value.ref) out.toArray, toks := tk } :=
      I1.take (h' := sortedHeap h2 h'.objs.size (as.map Value.ref) out.toArray) (t' := tk) (fun b ob _ e => e) (I.fpOk (Nat.le_of_lt hlt) hn0) ⟨hlen, out, eF, rv, heF⟩
    have fr : ∀ t ∈ ts, H t = none := fun t ht => I.hok.fresh (Nat.le_of_lt (hG.above t (hts t ht)))
    obtain ⟨H2, I3, g, qt⟩ := DX.takeT (P := fun b vs => vs = [.str (rdP h2 (.ref b)).1, .int (rdP h2 (.ref b)).2]) I ts _ I2 (pts.nodup_iff.mpr ndA) fun b hb => by
      obtain ⟨b', eb, ne, ⟨t, u, g⟩, _⟩ := prv (.ref b) (List.mem_map.mpr ⟨b, hts b hb, rfl⟩)
      cases eb
      refine ⟨Nat.le_of_lt (hG.above b (hts b hb)), by rw [upd_ne ne]; exact fr b hb, _, rfl, fun H3 => ⟨(by rw [sizeLine_eq]; show 2 ≤ 16777216; omega), [_, _], .cons ⟨t, rfl⟩ (.cons ⟨u, rfl⟩ .nil), ⟨_, kF _ _ ne g, rfl, 0, rfl⟩⟩⟩
    have gr : Ex H H2 := fun b o e => g b o (by rw [upd_ne (ne_of_none e hn0)]; exact e)
    refine ⟨.ref h'.objs.size, H2, I3, rfl, q H2 h'.objs.size ts (ts.map fun b => rdP h2 (.ref b)) gr hn0 fr ?_ ?_ (g _ _ upd_same) ?_⟩
    · rw [ecA]
      exact pts.map _
    · have e2 : SrtO.Srtd (fun v u => slt (rdP h2 v).1 (rdP h2 u).1) (ts.map Value.ref) := by rw [ets]; exact o1
      exact List.pairwise_map.mpr (List.pairwise_map.mp e2)
    · have all : ∀ l : List Addr, (∀ t ∈ l, t ∈ ts) → PrsAt H2 l (l.map fun b => rdP h2 (.ref b)) := by
        intro l
        induction l with
        | nil => intro _; exact .nil
        | cons b l ih =>
          intro hm
          obtain ⟨vs', ev, hH⟩ := qt b (hm b (List.mem_cons_self ..))
          exact .cons (by rw [hH, ev]) (ih fun t ht => hm t (List.mem_cons_of_mem _ ht))
      exact all ts fun t ht => ht
end
end DK

set_option Elab.async false
set_option linter.all false
set_option maxRecDepth 100000
set_option maxHeartbeats 4000000
/-! Names, weights, tables of counts: plain functions; what stands in the heap. -/
namespace DK
open PySem PySem.Spec PyProof.Rows L2
/-! ### names and weights -/
abbrev letters : Str := "abcdefghijklmnopqrstuvwxyz"
def lowC (c : Nat) : Bool := decide (97 ≤ c ∧ c ≤ 122)
def isName (z : Str) : Bool := decide (1 ≤ z.length ∧ z.length ≤ 8) && z.cps.toList.all lowC
def great : Int := 1000000000000000000000000000000000000000000000000000000000000
def isNameV : V → Bool
  | .str z => isName z
  | _ => false
def isWt (i : Int) : Bool := decide (1 ≤ i ∧ i ≤ great)
def isWtV : V → Bool
  | .int i => isWt i
  | _ => false
def isWholeV : V → Bool
  | .int _ => true
  | _ => false
def isRoomV : V → Bool
  | .int i => decide (1 ≤ i ∧ i ≤ 50)
  | _ => false
theorem letters_contains (c : Nat) : letters.cps.contains c = lowC c := by
  have e : letters.cps = #[97, 98, 99, 100, 101, 102, 103, 104, 105, 106, 107, 108, 109, 110, 111, 112, 113, 114, 115, 116, 117, 118, 119, 120, 121, 122] := by decide +kernel
  rw [e]
  unfold lowC
  rcases Nat.lt_or_ge c 128 with h | h
  · revert c
    decide +kernel
  · have h1 : ¬ (97 ≤ c ∧ c ≤ 122) := by omega
    rw [decide_eq_false h1]
    refine Bool.eq_false_iff.mpr fun hm => ?_
    rw [Array.contains_iff] at hm
    simp only [List.mem_toArray, List.mem_cons, List.not_mem_nil, or_false] at hm
    omega
theorem takeWhile_len {goes : Nat → Bool} : ∀ l : List Nat, (l.takeWhile goes).length = l.length ↔ l.all goes = true
  | [] => by simp
  | a :: l => by
    rw [List.takeWhile_cons, List.all_cons]
    cases e : goes a with
    | true =>
      simp only [if_true, List.length_cons, Nat.add_right_cancel_iff, Bool.true_and]
      exact takeWhile_len l
    | false => simp
theorem takeWhile_le {goes : Nat → Bool} (l : List Nat) : (l.takeWhile goes).length ≤ l.length := (List.takeWhile_prefix goes).length_le
theorem strip_empty_iff (goes : Nat → Bool) (x : Str) : (PySem.Txt.stripBy goes true true x = Str.empty) ↔ x.cps.toList.all goes = true := by
  rw [stripBy_eq]
  unfold PySem.stripLo PySem.stripHi Builtin.Str.strSub
  simp only [if_true]
  have hx : x.length = x.cps.toList.length := by simp [Str.length]
  rw [hx]
  generalize x.cps = a
  have e1 : a.size = a.toList.length := by simp
  constructor
  · intro h
    have h2 := congrArg (fun z : Str => z.cps.size) h
    simp only [Array.size_extract] at h2
    have h3 : (Str.empty).cps.size = 0 := rfl
    rw [h3, e1] at h2
    have l1 := takeWhile_le (goes := goes) a.toList
    have l2 := takeWhile_le (goes := goes) (a.toList.drop (a.toList.takeWhile goes).length).reverse
    rw [List.length_reverse, List.length_drop] at l2
    refine (takeWhile_len a.toList).mp ?_
    rcases Nat.lt_or_ge (a.toList.takeWhile goes).length a.toList.length with c | c
    · exfalso
      have l3 : ((a.toList.drop (a.toList.takeWhile goes).length).reverse.takeWhile goes).length = (a.toList.drop (a.toList.takeWhile goes).length).reverse.length := by
        rw [List.length_reverse, List.length_drop]
        omega
      have l4 := (takeWhile_len _).mp l3
      rw [List.all_reverse] at l4
      have hd : ∃ y r, a.toList.drop (a.toList.takeWhile goes).length = y :: r := by
        cases e : a.toList.drop (a.toList.takeWhile goes).length with
        | nil =>
          have := congrArg List.length e
          rw [List.length_drop] at this
          simp at this
          simp at c
          omega
        | cons y r => exact ⟨y, r, rfl⟩
      obtain ⟨y, r, ed⟩ := hd
      rw [ed, List.all_cons, Bool.and_eq_true] at l4
      have st := takeWhile_stop goes 0 a.toList
      rcases st with st | st
      · omega
      · have : a.toList.getD (a.toList.takeWhile goes).length 0 = y := by
          rw [List.getD_eq_getElem?_getD]
          have := congrArg (fun l : List Nat => l[0]?) ed
          simp only [List.getElem?_drop, Nat.add_zero, List.getElem?_cons_zero] at this
          rw [this]
          rfl
        rw [this, l4.1] at st
        cases st
    · omega
  · intro h
    have l1 := (takeWhile_len a.toList).mpr h
    rw [l1]
    have e2 : a.toList.drop a.toList.length = [] := List.drop_length
    rw [e2]
    show Str.mk (a.extract a.toList.length (a.toList.length - 0)) = Str.empty
    rw [Nat.sub_zero]
    have : a.extract a.toList.length a.toList.length = #[] := by simp
    rw [this]
    rfl
theorem strip_letters (x : Str) : decide (V.str (PySem.Txt.stripChars x letters) = V.str "") = x.cps.toList.all lowC := by
  have e0 : ("" : Str) = Str.empty := by decide +kernel
  have e1 : (fun c => letters.cps.contains c) = lowC := funext letters_contains
  have h := strip_empty_iff lowC x
  unfold PySem.Txt.stripChars
  rw [show letters.cps.contains = lowC from e1, e0]
  cases ha : x.cps.toList.all lowC with
  | true =>
    rw [h.mpr ha]
    simp
  | false =>
    refine decide_eq_false fun e => ?_
    have := h.mp (V.str.inj e)
    rw [ha] at this
    cases this
/-! ### tables of counts -/
def hasC (c : CM) (n : Str) : Bool := c.any fun e => decide (e.1 = n)
def getC (c : CM) (n : Str) : Option Int := (c.find? fun e => decide (e.1 = n)).map (·.2)
def getD0 (c : CM) (n : Str) : Int := (getC c n).getD 0
def putC (c : CM) (n : Str) (v : Int) : CM := if hasC c n = true then c.map (fun e => if e.1 = n then (e.1, v) else e) else c ++ [(n, v)]
/-- so much less, without those that would have nothing -/
def lowered (c : CM) (m : Int) : CM := (c.filter fun e => decide (m < e.2)).map fun e => (e.1, e.2 - m)
def minL (w : Int) (l : List Int) : Int := l.foldl min w
def keysC (c : CM) : List Str := c.map (·.1)
def valsC (c : CM) : List Int := c.map (·.2)
/-- a coming: the table, what is lost by it -/
def come (room : Int) (c : CM) (n : Str) (w : Int) : CM × Int :=
  if hasC c n = false ∧ (c.length : Int) = room then
    let m := minL w (valsC c)
    let c' := lowered c m
    (if 0 < w - m then putC c' n (getD0 c' n + (w - m)) else c', m)
  else (putC c n (getD0 c n + w), 0)
theorem valV_kvc (n : Str) : ∀ c : CM, valV (kvc c) (Sum.inr n : Key) = (getC c n).map V.int
  | [] => rfl
  | e :: c => by
    by_cases h : e.1 = n
    · have h1 : valV (kvc (e :: c)) (Sum.inr n : Key) = some (V.int e.2) := valV_pos (p := ((Sum.inr e.1 : Key), V.int e.2)) (by rw [h])
      rw [h1]
      simp [getC, h]
    · have h1 : valV (kvc (e :: c)) (Sum.inr n : Key) = valV (kvc c) (Sum.inr n : Key) := valV_neg (p := ((Sum.inr e.1 : Key), V.int e.2)) (fun q => h (Sum.inr.inj q))
      rw [h1, valV_kvc n c]
      simp [getC, h]
theorem has_get (n : Str) : ∀ c : CM, hasC c n = (getC c n).isSome
  | [] => rfl
  | e :: c => by
    have ih := has_get n c
    unfold hasC getC at ih ⊢
    by_cases h : e.1 = n
    · simp [h]
    · rw [List.any_cons, List.find?_cons, decide_eq_false h, Bool.false_or]
      exact ih
theorem put_kvc (c : CM) (n : Str) (v : Int) : putK (kvc c) (Sum.inr n : Key) (V.int v) = kvc (putC c n v) := by
  have ea : ((kvc c).any fun kv => decide (kv.1 = (Sum.inr n : Key))) = hasC c n := by
    unfold kvc hasC
    rw [List.any_map]
    congr 1
    funext e
    simp only [Function.comp]
    rw [Bool.eq_iff_iff]
    simp
  unfold putK putC
  rw [ea]
  by_cases h : hasC c n = true
  · rw [if_pos h, if_pos h]
    unfold kvc
    rw [List.map_map, List.map_map]
    refine List.map_congr_left fun e _ => ?_
    simp only [Function.comp]
    by_cases h2 : e.1 = n
    · rw [if_pos (by rw [h2]), if_pos h2]
    · rw [if_neg (fun q => h2 (Sum.inr.inj q)), if_neg h2]
  · rw [if_neg h, if_neg h]
    unfold kvc
    rw [List.map_append]
    rfl
theorem len_kvc (c : CM) : (kvc c).length = c.length := by
  unfold kvc
  rw [List.length_map]
theorem snd_kvc (c : CM) : (kvc c).map (·.2) = (valsC c).map V.int := by
  unfold kvc valsC
  rw [List.map_map, List.map_map]
  rfl
/-! ### what stands in the heap -/
/-- all but these stands as it stood -/
def Off (l : List Addr) (H H' : Hp) : Prop := ∀ b o, b ∉ l → H b = some o → H' b = some o
theorem Off.refl (l : List Addr) (H : Hp) : Off l H H := fun _ _ _ e => e
theorem Off.of_ex {l : List Addr} {H H' : Hp} (e : Ex H H') : Off l H H' := fun b o _ h => e b o h
theorem Off.trans {l : List Addr} {H H1 H2 : Hp} (a : Off l H H1) (b : Off l H1 H2) : Off l H H2 := fun c o n e => b c o n (a c o n e)
theorem Off.mono {l m : List Addr} {H H1 : Hp} (a : Off l H H1) (h : ∀ b ∈ l, b ∈ m) : Off m H H1 := fun c o n e => a c o (fun z => n (h c z)) e
theorem Off.upd {l : List Addr} {H : Hp} {p : Addr} {o : HO} (h : p ∈ l) : Off l H (upd H p o) := fun b u n e => by
  rw [upd_ne (fun z => n (by rw [z]; exact h))]
  exact e
theorem Off.new {l : List Addr} {H : Hp} {p : Addr} {o : HO} (h : H p = none) : Off l H (L2.upd H p o) := fun b u n e => by
  rw [upd_ne (ne_of_none e h)]
  exact e
theorem Off.nil {H H' : Hp} (h : Off [] H H') : Ex H H' := fun b o e => h b o (fun z => nomatch z) e
/-- the attributes of a Desk, in the order in which they are stored -/
def dfl (room : Int) (d : Addr) (gone total : Int) : List (Str × V) := [(("room" : Str), .int room), (("counts" : Str), .ref d), (("gone" : Str), .int gone), (("total" : Str), .int total)]
section
variable (room : Int) (d : Addr) (gone total : Int)
theorem k_cr : ((("counts" : Str) == "room") = false) ∧ ((("gone" : Str) == "room") = false) ∧ ((("gone" : Str) == "counts") = false) ∧ ((("total" : Str) == "room") = false) ∧ ((("total" : Str) == "counts") = false) ∧ ((("total" : Str) == "gone") = false) := by decide +kernel
theorem k_rr : ((("room" : Str) == "room") = true) ∧ ((("counts" : Str) == "counts") = true) ∧ ((("gone" : Str) == "gone") = true) ∧ ((("total" : Str) == "total") = true) := by decide +kernel
theorem k_ne : ¬ ("room" : Str) = "counts" ∧ ¬ ("room" : Str) = "gone" ∧ ¬ ("room" : Str) = "total" ∧ ¬ ("counts" : Str) = "gone" ∧ ¬ ("counts" : Str) = "total" ∧ ¬ ("gone" : Str) = "total" := by decide +kernel
theorem dfl_room : (dfl room d gone total).lookup ("room" : Str) = some (.int room) := by
  simp only [dfl, List.lookup, k_rr.1]
theorem dfl_counts : (dfl room d gone total).lookup ("counts" : Str) = some (.ref d) := by
  simp only [dfl, List.lookup, k_cr.1, k_rr.2.1]
theorem dfl_gone : (dfl room d gone total).lookup ("gone" : Str) = some (.int gone) := by
  simp only [dfl, List.lookup, k_cr.2.1, k_cr.2.2.1, k_rr.2.2.1]
theorem dfl_total : (dfl room d gone total).lookup ("total" : Str) = some (.int total) := by
  simp only [dfl, List.lookup, k_cr.2.2.2.1, k_cr.2.2.2.2.1, k_cr.2.2.2.2.2, k_rr.2.2.2]
theorem dfl_no {m : Str} (h : (m == "room") = false ∧ (m == "counts") = false ∧ (m == "gone") = false ∧ (m == "total") = false) : (dfl room d gone total).lookup m = none := by
  simp only [dfl, List.lookup, h.1, h.2.1, h.2.2.1, h.2.2.2]
theorem dfl_put_counts (d' : Addr) : putF "counts" (.ref d') (dfl room d gone total) = dfl room d' gone total := by
  simp only [dfl, putF, if_neg k_ne.1, if_true]
theorem dfl_put_gone (z : Int) : putF "gone" (.int z) (dfl room d gone total) = dfl room d z total := by
  simp only [dfl, putF, if_neg k_ne.2.1, if_neg k_ne.2.2.2.1, if_true]
theorem dfl_put_total (z : Int) : putF "total" (.int z) (dfl room d gone total) = dfl room d gone z := by
  simp only [dfl, putF, if_neg k_ne.2.2.1, if_neg k_ne.2.2.2.2.1, if_neg k_ne.2.2.2.2.2, if_true]
theorem dfl_make : putF "total" (.int total) (putF "gone" (.int gone) (putF "counts" (.ref d) (putF "room" (.int room) []))) = dfl room d gone total := by
  simp only [dfl, putF, if_neg k_ne.1, if_neg k_ne.2.1, if_neg k_ne.2.2.1, if_neg k_ne.2.2.2.1, if_neg k_ne.2.2.2.2.1, if_neg k_ne.2.2.2.2.2]
end
/-- a Desk at p, its table at d -/
structure DeskAt (C : Addr) (H : Hp) (p d : Addr) (room : Int) (c : CM) (gone total : Int) : Prop where
  ob : ∃ dx, H p = some (.ins C dx (dfl room d gone total))
  dc : H d = some (.dK (kvc c))
  nd : (keysC c).Nodup
  ln : (c.length : Int) ≤ room
  r1 : 1 ≤ room
  r2 : room ≤ 50
theorem DeskAt.ne {C : Addr} {H : Hp} {p d : Addr} {room : Int} {c : CM} {gone total : Int} (D : DeskAt C H p d room c gone total) : p ≠ d := by
  obtain ⟨dx, h⟩ := D.ob
  exact ne_of h D.dc (fun z => nomatch z)
theorem DeskAt.off {C : Addr} {H H' : Hp} {p d : Addr} {room : Int} {c : CM} {gone total : Int} {l : List Addr} (D : DeskAt C H p d room c gone total) (h : Off l H H') (hp : p ∉ l) (hd : d ∉ l) : DeskAt C H' p d room c gone total :=
  ⟨let ⟨dx, e⟩ := D.ob; ⟨dx, h p _ hp e⟩, h d _ hd D.dc, D.nd, D.ln, D.r1, D.r2⟩
theorem DeskAt.ex {C : Addr} {H H' : Hp} {p d : Addr} {room : Int} {c : CM} {gone total : Int} (D : DeskAt C H p d room c gone total) (h : Ex H H') : DeskAt C H' p d room c gone total :=
  D.off (l := []) (Off.of_ex h) (fun z => nomatch z) (fun z => nomatch z)
theorem DeskAt.len {C : Addr} {H : Hp} {p d : Addr} {room : Int} {c : CM} {gone total : Int} (D : DeskAt C H p d room c gone total) : c.length ≤ 50 := by
  have := D.ln
  have := D.r2
  omega
/-- a thing whose kind isinstance can tell -/
structure Thing (K : PySem.W.Frag) (H : Hp) (x : V) : Prop where
  ex : ∃ t, TyX K H x t ∧ PySem.W.kitOne K t (.type "str") = some (match x with | .str _ => true | _ => false) ∧ PySem.W.kitOne K t (.type "int") = some (match x with | .int _ => true | .bl _ => true | _ => false) ∧ PySem.W.kitOne K t (.type "bool") = some (match x with | .bl _ => true | _ => false)
section
variable {K : PySem.W.Frag} {H : Hp}
theorem thing_str (z : Str) : Thing K H (.str z) := ⟨.type "str", .base (.str z), kit_ty (show kitB "str" "str" = some true by decide +kernel), kit_ty (show kitB "str" "int" = some false by decide +kernel), kit_ty (show kitB "str" "bool" = some false by decide +kernel)⟩
theorem thing_int (i : Int) : Thing K H (.int i) := ⟨.type "int", .base (.int i), kit_ty (show kitB "int" "str" = some false by decide +kernel), kit_ty (show kitB "int" "int" = some true by decide +kernel), kit_ty (show kitB "int" "bool" = some false by decide +kernel)⟩
theorem thing_bl (b : Bool) : Thing K H (.bl b) := ⟨.type "bool", .base (.bl b), kit_ty (show kitB "bool" "str" = some false by decide +kernel), kit_ty (show kitB "bool" "int" = some true by decide +kernel), kit_ty (show kitB "bool" "bool" = some true by decide +kernel)⟩
theorem thing_non : Thing K H .non := ⟨.type "NoneType", .base .non, kit_ty (show kitB "NoneType" "str" = some false by decide +kernel), kit_ty (show kitB "NoneType" "int" = some false by decide +kernel), kit_ty (show kitB "NoneType" "bool" = some false by decide +kernel)⟩
theorem thing_lst {a : Addr} {xs : List V} (h : H a = some (.lst xs)) : Thing K H (.ref a) := ⟨.type "list", .base (.lst h), kit_ty (show kitB "list" "str" = some false by decide +kernel), kit_ty (show kitB "list" "int" = some false by decide +kernel), kit_ty (show kitB "list" "bool" = some false by decide +kernel)⟩
theorem thing_dK {a : Addr} {kvs : List (Key × V)} (h : H a = some (.dK kvs)) : Thing K H (.ref a) := ⟨.type "dict", .base (.dK h), kit_ty (show kitB "dict" "str" = some false by decide +kernel), kit_ty (show kitB "dict" "int" = some false by decide +kernel), kit_ty (show kitB "dict" "bool" = some false by decide +kernel)⟩
end
/-! ### a def that may be called: where it stands and what it promises -/
structure Gf (P : Program) (w : World) (K : PySem.W.Frag) (mg : Str → Option Value) (base : Heap) (CX : CXT) (k : Nat) (x : Str) (ps : List Str) (sp : Sp) : Prop where
  ex : ∃ f fd, FnOk P w K mg base CX k f fd ps sp ∧ Binds K fd ps [] ∧ mg x = some (.ref f) ∧ PySem.W.keepIn K (.ref f) = true
/-- a method of the class at C -/
structure Gm (P : Program) (w : World) (K : PySem.W.Frag) (mg : Str → Option Value) (base : Heap) (CX : CXT) (C : Addr) (k : Nat) (x : Str) (ps : List Str) (sp : Sp) : Prop where
  ex : ∃ f fd, FnOk P w K mg base CX k f fd ps sp ∧ Binds K fd ps [] ∧ Meth K C x f
/-- an own exception class without __init__ of its own -/
structure ExT (K : PySem.W.Frag) (mg : Str → Option Value) (x : Str) (C : Addr) : Prop where
  g : mg x = some (.ref C)
  x : PySem.W.excIn K C [.type "ValueError", .type "Exception", .type "BaseException", .type "object"] "ValueError.__new__" = true
  k : PySem.W.keepIn K (.ref C) = true
  b : PySem.W.subIn K (.ref C) (.type "BaseException") = some true
  t : PySem.W.typeIn K (.ref C) = some (.type "type")
section
variable {X : Cx}
theorem pe_gint {x : Str} {i : Int} {t : Tok} {pos : Pos} (hm : X.mg x = some (.int i t)) (hg : Gl X x) (hd : (x == ("__debug__" : Str)) = false := by decide) : PE X (.Name x pos) (tC (.int i)) := pe_glob hg hm ⟨t, rfl⟩ hd
theorem pe_gstr {x : Str} {z : Str} {t : Tok} {pos : Pos} (hm : X.mg x = some (.str z t)) (hg : Gl X x) (hd : (x == ("__debug__" : Str)) = false := by decide) : PE X (.Name x pos) (tC (.str z)) := pe_glob hg hm ⟨t, rfl⟩ hd
theorem pe_bty {x : Str} {n : String} {pos : Pos} (hm : X.mg x = none) (hv : bootBuiltins x = some (.type n)) (hg : Gl X x) (hn : x ≠ "__name__" := by decide) (hd : (x == ("__debug__" : Str)) = false := by decide) : PE X (.Name x pos) (tC (.ty n)) := pe_bltn hg hm hv rfl hn hd
end
/-! ### loops and comprehensions over whatever is walked, n turns -/
theorem for_it {J : It} {n : Nat} {g : TG} {tb : TS} {D : Ends} {σ : L2.St} {H : Hp} (Pv : Nat → L2.St → Hp → Prop) (h0 : Pv 0 σ H) (hgo : ∀ i σ H, i < n → Pv i σ H → J.go i H) (hst : ∀ σ H, Pv n σ H → J.stop n H)
    (hs : ∀ i σ H, i < n → Pv i σ H → ∀ x H', J.yld i H x H' → g x σ H' fun σ2 H2 => tb { D with nx := Pv (i + 1), ct := Pv (i + 1), bk := D.nx } σ2 H2) (hd : ∀ σ H, Pv n σ H → D.nx σ H) :
    ∃ W : Nat → Nat → L2.St → Hp → Prop, (∃ m, W 0 m σ H) ∧ ∀ i m σ H, W i m σ H →
      (J.stop i H ∧ D.nx σ H) ∨ (J.go i H ∧ ∃ N : L2.St → Hp → Prop, (∀ σ' H', N σ' H' → ∃ m', m' < m ∧ W (i + 1) m' σ' H') ∧ ∀ x H', J.yld i H x H' → g x σ H' fun σ2 H2 => tb { D with nx := N, ct := N, bk := D.nx } σ2 H2) := by
  refine ⟨fun i m σ H => m = n - i ∧ i ≤ n ∧ Pv i σ H, ⟨n, (Nat.sub_zero n).symm, Nat.zero_le _, h0⟩, ?_⟩
  rintro i m σ H ⟨rfl, hi, p⟩
  rcases Nat.lt_or_ge i n with c | c
  · exact .inr ⟨hgo i σ H c p, Pv (i + 1), fun σ' H' p' => ⟨n - (i + 1), by omega, rfl, c, p'⟩, hs i σ H c p⟩
  · obtain rfl : i = n := by omega
    exact .inl ⟨hst σ H p, hd σ H p⟩
theorem lc_it {J : It} {n : Nat} {g : TG} {tt : TT} {te : TE} {vs : List Nat} {σ : L2.St} {H1 : Hp} {D : Addr} {Qd : Hp → Prop} (Pv : Nat → Hp → Prop) (h0 : Pv 0 (upd H1 D (.lst []))) (hgo : ∀ i H, i < n → Pv i H → J.go i H) (hst : ∀ H, Pv n H → J.stop n H)
    (hs : ∀ i H, i < n → Pv i H → ∀ x H', J.yld i H x H' → g x (wipe σ vs) H' fun σ2 H2 => wipe σ2 vs = wipe σ vs ∧ tt σ2 H2 fun b H3 =>
      if b = true then te σ2 H3 fun y H4 => ∃ acc, H4 D = some (.lst acc) ∧ acc.length < sizeLine ∧ Pv (i + 1) (upd H4 D (.lst (acc ++ [y]))) else Pv (i + 1) H3) (hd : ∀ H, Pv n H → Qd H) :
    ∃ W : Nat → Nat → Hp → Prop, (∃ m, W 0 m (upd H1 D (.lst []))) ∧ ∀ i m H, W i m H →
      (J.stop i H ∧ Qd H) ∨ (J.go i H ∧ ∃ Nx : Hp → Prop, (∀ H', Nx H' → ∃ m', m' < m ∧ W (i + 1) m' H') ∧ ∀ x H', J.yld i H x H' → g x (wipe σ vs) H' fun σ2 H2 => wipe σ2 vs = wipe σ vs ∧ tt σ2 H2 fun b H3 =>
        if b = true then te σ2 H3 fun y H4 => ∃ acc, H4 D = some (.lst acc) ∧ acc.length < sizeLine ∧ Nx (upd H4 D (.lst (acc ++ [y]))) else Nx H3) := by
  refine ⟨fun i m H => m = n - i ∧ i ≤ n ∧ Pv i H, ⟨n, (Nat.sub_zero n).symm, Nat.zero_le _, h0⟩, ?_⟩
  rintro i m H ⟨rfl, hi, p⟩
  rcases Nat.lt_or_ge i n with c | c
  · exact .inr ⟨hgo i H c p, Pv (i + 1), fun H' p' => ⟨n - (i + 1), by omega, rfl, c, p'⟩, hs i H c p⟩
  · obtain rfl : i = n := by omega
    exact .inl ⟨hst H p, hd H p⟩
/-- a Desk that is read (its table may be locked) -/
structure DeskR (C : Addr) (H : Hp) (p d : Addr) (room : Int) (c : CM) (gone total : Int) : Prop where
  ob : ∃ dx, H p = some (.ins C dx (dfl room d gone total))
  dc : Rd H d (.dK (kvc c))
theorem DeskAt.rd {C : Addr} {H : Hp} {p d : Addr} {room : Int} {c : CM} {gone total : Int} (D : DeskAt C H p d room c gone total) : DeskR C H p d room c gone total := ⟨D.ob, .inl D.dc⟩
theorem DGet.of {H : Hp} {d : Addr} {c : CM} (h : Rd H d (.dK (kvc c))) (n : Str) : DGet H d (.str n) ((getC c n).map V.int) := .inl ⟨kvc c, Sum.inr n, h, rfl, (valV_kvc n c).symm⟩
theorem IsD.of {H : Hp} {d : Addr} {c : CM} (h : Rd H d (.dK (kvc c))) : IsD H d := .inl ⟨_, h⟩
theorem getD_map (o : Option Int) (z : Int) : (o.map V.int).getD (.int z) = .int (o.getD z) := by
  cases o <;> rfl
theorem DPut.of {H : Hp} {d : Addr} {c : CM} (h : H d = some (.dK (kvc c))) (n : Str) (v : Int) (hl : c.length < sizeLine) : DPut H d (.str n) (.int v) (upd H d (.dK (kvc (putC c n v)))) :=
  .inl ⟨kvc c, Sum.inr n, h, rfl, by rw [len_kvc]; exact hl, by rw [put_kvc]⟩
theorem small {n : Nat} (h : n ≤ 100000) : n < sizeLine := by rw [sizeLine_eq]; omega
/-! ### what a coming keeps -/
theorem minL_le : ∀ (l : List Int) (w : Int), minL w l ≤ w ∧ ∀ y ∈ l, minL w l ≤ y
  | [], w => ⟨Int.le_refl _, fun _ h => nomatch h⟩
  | a :: l, w => by
    obtain ⟨h1, h2⟩ := minL_le l (min w a)
    have e : minL w (a :: l) = minL (min w a) l := rfl
    rw [e]
    refine ⟨by omega, fun y hy => ?_⟩
    rcases List.mem_cons.mp hy with rfl | hy
    · omega
    · exact h2 y hy
theorem minL_mem : ∀ (l : List Int) (w : Int), minL w l = w ∨ minL w l ∈ l
  | [], w => .inl rfl
  | a :: l, w => by
    have e : minL w (a :: l) = minL (min w a) l := rfl
    rw [e]
    rcases minL_mem l (min w a) with h | h
    · rcases Int.le_total w a with c | c
      · left
        rw [h]
        omega
      · right
        rw [h, Int.min_eq_right c]
        exact List.mem_cons_self ..
    · exact .inr (List.mem_cons_of_mem _ h)
theorem minL_uniq {l : List Int} {w m : Int} (h1 : m = w ∨ m ∈ l) (h2 : m ≤ w) (h3 : ∀ y ∈ l, m ≤ y) : m = minL w l := by
  obtain ⟨a1, a2⟩ := minL_le l w
  rcases minL_mem l w with b | b
  · rcases h1 with c | c
    · rw [c, b]
    · have := a2 m c
      omega
  · have := h3 _ b
    rcases h1 with c | c
    · omega
    · have := a2 m c
      omega
theorem keys_put (c : CM) (n : Str) (v : Int) : keysC (putC c n v) = if hasC c n = true then keysC c else keysC c ++ [n] := by
  unfold putC
  by_cases h : hasC c n = true
  · rw [if_pos h, if_pos h]
    unfold keysC
    rw [List.map_map]
    refine List.map_congr_left fun e _ => ?_
    simp only [Function.comp]
    split <;> rfl
  · rw [if_neg h, if_neg h]
    unfold keysC
    rw [List.map_append]
    rfl
theorem has_iff (c : CM) (n : Str) : hasC c n = true ↔ n ∈ keysC c := by
  unfold hasC keysC
  rw [List.any_eq_true, List.mem_map]
  constructor
  · rintro ⟨e, he, h⟩
    exact ⟨e, he, of_decide_eq_true h⟩
  · rintro ⟨e, he, h⟩
    exact ⟨e, he, decide_eq_true h⟩
theorem put_nodup {c : CM} {n : Str} {v : Int} (h : (keysC c).Nodup) : (keysC (putC c n v)).Nodup := by
  rw [keys_put]
  split
  · exact h
  · rename_i hn
    exact nd_snoc h fun hm => hn ((has_iff c n).mpr hm)
theorem put_len (c : CM) (n : Str) (v : Int) : (putC c n v).length = if hasC c n = true then c.length else c.length + 1 := by
  have e := congrArg List.length (keys_put c n v)
  unfold keysC at e
  rw [List.length_map] at e
  rw [e]
  split <;> simp
theorem lowered_keys (c : CM) (m : Int) : (keysC (lowered c m)).Sublist (keysC c) := by
  unfold lowered keysC
  rw [List.map_map]
  exact (List.filter_sublist).map _
theorem lowered_nodup {c : CM} {m : Int} (h : (keysC c).Nodup) : (keysC (lowered c m)).Nodup := (lowered_keys c m).nodup h
theorem lowered_len (c : CM) (m : Int) : (lowered c m).length ≤ c.length := by
  unfold lowered
  rw [List.length_map]
  exact List.length_filter_le _ _
theorem lowered_lt {c : CM} {m : Int} (h : ∃ e ∈ c, e.2 ≤ m) : (lowered c m).length < c.length := by
  obtain ⟨e, he, hm⟩ := h
  unfold lowered
  rw [List.length_map]
  exact List.length_filter_lt_length_iff_exists.mpr ⟨e, he, by simp; omega⟩
theorem come_nodup {room w : Int} {c : CM} {n : Str} (h : (keysC c).Nodup) : (keysC (come room c n w).1).Nodup := by
  unfold come
  split
  · dsimp only
    split
    · exact put_nodup (lowered_nodup h)
    · exact lowered_nodup h
  · exact put_nodup h
theorem come_len {room w : Int} {c : CM} {n : Str} (h : (c.length : Int) ≤ room) : ((come room c n w).1.length : Int) ≤ room := by
  unfold come
  split
  · dsimp only
    split
    · rename_i hw
      have hl : (lowered c (minL w (valsC c))).length < c.length := by
        rcases minL_mem (valsC c) w with e | e
        · rw [e] at hw
          omega
        · unfold valsC at e
          obtain ⟨z, hz, ez⟩ := List.mem_map.mp e
          exact lowered_lt ⟨z, hz, by show z.2 ≤ minL w (valsC c); unfold valsC; omega⟩
      rw [put_len]
      split <;> omega
    · have := lowered_len c (minL w (valsC c))
      omega
  · rename_i hn
    rw [put_len]
    split
    · exact h
    · rename_i h2
      have h3 : hasC c n = false := Bool.eq_false_iff.mpr h2
      have h4 : ¬ (c.length : Int) = room := fun z => hn ⟨h3, z⟩
      omega
end DK

set_option Elab.async false
set_option linter.all false
set_option maxRecDepth 100000
set_option maxHeartbeats 4000000
namespace DK
open PySem PySem.Spec PyProof.Rows L2
/-! ### the sorted ones -/
def sle (x y : Str) : Bool := !slt y x
theorem sle_tr (a b c : Str) (h1 : sle a b = true) (h2 : sle b c = true) : sle a c = true := by
  unfold sle at *
  rw [Bool.not_eq_true'] at *
  exact slt_tr a b c h1 h2
theorem sle_tot (a b : Str) : (sle a b || sle b a) = true := by
  unfold sle
  cases h1 : slt b a with
  | false => rfl
  | true =>
    rw [slt_asym _ _ h1]
    rfl
theorem sle_anti {a b : Str} (h1 : sle a b = true) (h2 : sle b a = true) : a = b := by
  unfold sle at *
  rw [Bool.not_eq_true'] at *
  exact slt_tot a b h2 h1
def sortS (l : List Str) : List Str := l.mergeSort sle
def sortC (c : CM) : CM := c.mergeSort fun e f => sle e.1 f.1
theorem sortS_perm (l : List Str) : (sortS l).Perm l := List.mergeSort_perm _ _
theorem sortC_perm (c : CM) : (sortC c).Perm c := List.mergeSort_perm _ _
theorem sortS_asc (l : List Str) : (sortS l).Pairwise fun x y => sle x y = true := List.pairwise_mergeSort sle_tr sle_tot l
theorem sortC_asc (c : CM) : (sortC c).Pairwise fun e f => sle e.1 f.1 = true := List.pairwise_mergeSort (fun a b c => sle_tr a.1 b.1 c.1) (fun a b => sle_tot a.1 b.1) c
theorem rising_pw : ∀ (r : List Str) (p : Str), risingS p r = true → (p :: r).Pairwise fun x y => sle x y = true
  | [], p, _ => List.pairwise_singleton _ _
  | x :: r, p, h => by
    unfold risingS at h
    rw [Bool.and_eq_true] at h
    have ih := rising_pw r x h.2
    have hpx : sle p x = true := by
      have h1 := h.1
      rw [Bool.not_eq_true'] at h1
      unfold sle slt
      rw [← ltCps_eq, h1]
      rfl
    rw [List.pairwise_cons]
    refine ⟨fun y hy => ?_, ih⟩
    rcases List.mem_cons.mp hy with rfl | hy
    · exact hpx
    · exact sle_tr _ _ _ hpx ((List.pairwise_cons.mp ih).1 y hy)
theorem sortedS_pw {l : List Str} (h : sortedS l = true) : l.Pairwise fun x y => sle x y = true := by
  cases l with
  | nil => exact List.Pairwise.nil
  | cons x r => exact rising_pw r x h
theorem sortS_eq {ys xs : List Str} (p : ys.Perm xs) (h : ys.Pairwise fun x y => sle x y = true) : ys = sortS xs :=
  List.Perm.eq_of_pairwise (fun a b _ _ h1 h2 => sle_anti h1 h2) h (sortS_asc xs) (p.trans (sortS_perm xs).symm)
theorem mem_eq {c : CM} (nd : (keysC c).Nodup) {e f : Str × Int} (he : e ∈ c) (hf : f ∈ c) (h : e.1 = f.1) : e = f := by
  have := nodup_val nd e he f hf h
  exact Prod.ext h this
theorem sortC_eq {c' c : CM} (nd : (keysC c).Nodup) (p : c'.Perm c) (h : c'.Pairwise fun e f => sle e.1 f.1 = true) : c' = sortC c :=
  List.Perm.eq_of_pairwise (fun a b ha hb h1 h2 => mem_eq nd (p.mem_iff.mp ha) ((sortC_perm c).mem_iff.mp hb) (sle_anti h1 h2)) h (sortC_asc c) (p.trans (sortC_perm c).symm)
theorem sortC_asc' {c' : CM} (h : Asc c') : c'.Pairwise fun e f => sle e.1 f.1 = true :=
  h.imp fun {e f} h => by
    unfold sle
    rw [h]
    rfl
theorem perm_keys {c' c : CM} (p : c'.Perm c) : (keysC c').Perm (keysC c) := by
  unfold keysC
  exact p.map _
theorem sortC_nodup {c : CM} (nd : (keysC c).Nodup) : (keysC (sortC c)).Nodup := (perm_keys (sortC_perm c)).nodup_iff.mpr nd
theorem sortC_len (c : CM) : (sortC c).length = c.length := (sortC_perm c).length_eq
theorem merge_new : ∀ (c a : CM), (keysC (a ++ c)).Nodup → mergeK (kvc a) (kvc c) = kvc (a ++ c)
  | [], a, _ => by
    rw [List.append_nil]
    rfl
  | e :: c, a, h => by
    have e1 : mergeK (kvc a) (kvc (e :: c)) = mergeK (putK (kvc a) (Sum.inr e.1) (V.int e.2)) (kvc c) := rfl
    have hn : hasC a e.1 = false := by
      refine Bool.eq_false_iff.mpr fun hh => ?_
      have hm := (has_iff a e.1).mp hh
      unfold keysC at h hm
      rw [List.map_append, List.nodup_append] at h
      exact h.2.2 _ hm _ (by simp) rfl
    rw [e1, put_kvc]
    have e2 : putC a e.1 e.2 = a ++ [e] := by
      unfold putC
      rw [if_neg (by rw [hn]; exact Bool.false_ne_true)]
    rw [e2, merge_new c (a ++ [e]) (by rw [List.append_assoc]; exact h), List.append_assoc]
    rfl
theorem merge_kvc {c : CM} (h : (keysC c).Nodup) : mergeK [] (kvc c) = kvc c := merge_new c [] h
theorem prs_paired {K : PySem.W.Frag} {H : Hp} {ts : List Addr} {c : CM} (h : PrsAt H ts c) : Paired (fun p (kv : Key × V) => SqT K H p [kV kv.1, kv.2]) ts (kvc c) := by
  unfold PrsAt at h
  induction h with
  | nil => exact .nil
  | cons r t ih => exact .cons (SqT.of r) ih
/-- the tables that are one up to their order -/
theorem getC_mem {c : CM} (nd : (keysC c).Nodup) {n : Str} {v : Int} : getC c n = some v ↔ (n, v) ∈ c := by
  unfold getC
  constructor
  · intro h
    cases e : c.find? (fun e => decide (e.1 = n)) with
    | none => rw [e] at h; cases h
    | some z =>
      rw [e] at h
      have h1 := List.mem_of_find?_eq_some e
      have h2 := List.find?_some (p := fun e : Str × Int => decide (e.1 = n)) e
      have h3 : z.1 = n := of_decide_eq_true h2
      have h4 : z.2 = v := Option.some.inj h
      rw [← h3, ← h4]
      exact h1
  · intro h
    cases e : c.find? (fun e => decide (e.1 = n)) with
    | none =>
      have := List.find?_eq_none.mp e _ h
      simp at this
    | some z =>
      have h1 := List.mem_of_find?_eq_some e
      have h2 : z.1 = n := of_decide_eq_true (List.find?_some (p := fun e : Str × Int => decide (e.1 = n)) e)
      have : z = (n, v) := mem_eq nd h1 h h2
      rw [this]
      rfl
theorem getC_perm {c c' : CM} (nd : (keysC c).Nodup) (p : c'.Perm c) (n : Str) : getC c' n = getC c n := by
  have nd' : (keysC c').Nodup := (perm_keys p).nodup_iff.mpr nd
  cases e : getC c n with
  | some v => exact (getC_mem nd').mpr (p.mem_iff.mpr ((getC_mem nd).mp e))
  | none =>
    cases e' : getC c' n with
    | none => rfl
    | some v =>
      have := (getC_mem nd).mpr (p.mem_iff.mp ((getC_mem nd').mp e'))
      rw [e] at this
      cases this
end DK

set_option Elab.async false
set_option linter.all false
set_option maxRecDepth 100000
set_option maxHeartbeats 4000000
namespace DK
open PySem PySem.Spec PyProof.Rows L2
/-! ### texts by their codes -/
abbrev cs (z : Str) : List Nat := z.cps.toList
theorem cs_len (z : Str) : z.length = (cs z).length := by simp [Str.length, cs]
theorem cs_app (x y : Str) : cs (x ++ y) = cs x ++ cs y := by
  show (x.cps ++ y.cps).toList = _
  simp [cs]
theorem cs_mk (l : List Nat) : cs ⟨l.toArray⟩ = l := by simp [cs]
theorem cs_inj {x y : Str} (h : cs x = cs y) : x = y := cps_inj h
theorem cut_to (z : Str) (k : Nat) : cs (cutS z none (some (k : Int))) = (cs z).take k := by
  unfold cutS
  rw [cs_mk, HT.sIx_none, HT.sIx_nat, List.drop_zero, Nat.sub_zero, cs_len]
  rcases Nat.le_total k (cs z).length with h | h
  · rw [Nat.min_eq_left h]
  · rw [Nat.min_eq_right h, List.take_of_length_le (Nat.le_refl _), List.take_of_length_le h]
theorem cut_from (z : Str) (k : Nat) : cs (cutS z (some (k : Int)) none) = (cs z).drop k := by
  unfold cutS
  rw [cs_mk, HT.sIx_none, HT.sIx_nat, cs_len]
  rw [List.take_of_length_le (by rw [List.length_drop]; exact Nat.le_refl _)]
  rcases Nat.le_total k (cs z).length with h | h
  · rw [Nat.min_eq_left h]
  · rw [Nat.min_eq_right h, List.drop_of_length_le (Nat.le_refl _), List.drop_of_length_le h]
theorem letters_at (i : Int) (h0 : 0 ≤ i) (h1 : i < 26) : atI (cs letters) i = some (97 + i.toNat) := by
  have e : cs letters = [97, 98, 99, 100, 101, 102, 103, 104, 105, 106, 107, 108, 109, 110, 111, 112, 113, 114, 115, 116, 117, 118, 119, 120, 121, 122] := by decide +kernel
  obtain ⟨k, rfl⟩ : ∃ k : Nat, i = (k : Int) := ⟨i.toNat, by omega⟩
  refine atI_nat ?_
  rw [e]
  have hk : k < 26 := by omega
  have all : ∀ j : Nat, j < 26 → ([97, 98, 99, 100, 101, 102, 103, 104, 105, 106, 107, 108, 109, 110, 111, 112, 113, 114, 115, 116, 117, 118, 119, 120, 121, 122] : List Nat)[j]? = some (97 + j) := by decide +kernel
  exact all k hk
theorem isName_iff (z : Str) : isName z = true ↔ 1 ≤ (cs z).length ∧ (cs z).length ≤ 8 ∧ ∀ c ∈ cs z, 97 ≤ c ∧ c ≤ 122 := by
  unfold isName
  rw [Bool.and_eq_true, List.all_eq_true, cs_len]
  constructor
  · rintro ⟨h1, h2⟩
    have := of_decide_eq_true h1
    exact ⟨this.1, this.2, fun c hc => of_decide_eq_true (h2 c hc)⟩
  · rintro ⟨h1, h2, h3⟩
    exact ⟨decide_eq_true ⟨h1, h2⟩, fun c hc => decide_eq_true (h3 c hc)⟩
/-- text times number: the codes -/
theorem mulS_ok {z : Str} {n : Int} (hz : z.length = 1) (h1 : 1 ≤ n) (h8 : n ≤ 8) : MulOk z n := by
  refine ⟨?_, fun _ _ => ?_, fun _ _ => ?_⟩
  · rw [Bool.or_eq_false_iff]
    exact ⟨decide_eq_false (by omega), decide_eq_false (by omega)⟩
  · rw [hz]
    have : (1 : Int) ≤ (2 ^ 63 - 1) / n := by
      rw [Int.le_ediv_iff_mul_le (by omega)]
      omega
    show ¬ ((1 : Nat) : Int) > _
    omega
  · rw [hz]
    unfold Builtin.Str.tooLong
    have h2 : 1 * n.toNat ≤ 8 := by omega
    refine decide_eq_false ?_
    generalize 1 * n.toNat = k at h2
    have : sizeLine = 16777216 := sizeLine_eq
    omega
theorem mulS_cs (c : Nat) : ∀ n : Nat, 1 ≤ n → n ≤ 8 → cs (PySem.Txt.mul ⟨#[c]⟩ (n : Int)) = List.replicate n c := by
  intro n h1 h8
  have h : n = 1 ∨ n = 2 ∨ n = 3 ∨ n = 4 ∨ n = 5 ∨ n = 6 ∨ n = 7 ∨ n = 8 := by omega
  rcases h with rfl | rfl | rfl | rfl | rfl | rfl | rfl | rfl <;> rfl
/-! ### the names that a law makes -/
/-- words of 1 to 8 letters, each with its own letter at one place -/
structure NamesOk (nm : List Str) : Prop where
  ok : ∀ n ∈ nm, isName n = true
  nd : nm.Nodup
/-- the k-th word by the letter at the place a -/
structure WordAt (q : Int) (a : Nat) (k : Nat) (z : Str) : Prop where
  nm : isName z = true
  at_ : (cs z)[a]? = some (97 + ((q + 5 * (k : Int)) % 26).toNat)
theorem words_ok {q : Int} {a : Nat} {nm : List Str} (hl : nm.length ≤ 14) (h : ∀ (k : Nat) (z : Str), nm[k]? = some z → WordAt q a k z) : NamesOk nm := by
  refine ⟨fun n hn => ?_, ?_⟩
  · obtain ⟨k, hk⟩ := List.mem_iff_getElem?.mp hn
    exact (h k n hk).nm
  · refine List.pairwise_iff_getElem.mpr fun i j hi hj hij e => ?_
    have ei : nm[i]? = some nm[i] := List.getElem?_eq_getElem hi
    have ej : nm[j]? = some nm[i] := by rw [e]; exact List.getElem?_eq_getElem hj
    have a1 := (h i _ ei).at_
    have a2 := (h j _ ej).at_
    rw [a1] at a2
    have := Option.some.inj a2
    omega
end DK

set_option Elab.async false
set_option linter.all false
set_option maxRecDepth 100000
set_option maxHeartbeats 4000000
namespace DK
open PySem PySem.Spec PyProof.Rows L2
/-! ### a number in a view of values: asked by walking -/
theorem no_contains : typeLookup (.type "dict_values") "__contains__" = pure none := by rw [typeLookup_type, builtinLookup_eq_fast]; kernel_rfl
theorem plain_in_loop : plainId "proto.contains_iter" = true := by decide +kernel
theorem entry_in_loop : entryFor table "proto.contains_iter" = some Builtin.«proto.contains_iter» := entryFor_of_tree (by kernel_rfl)
theorem code_in_loop {prog : Program} {w : World} {A : Around} {R : Result → Shared → Prop} {I : Addr} {fp wr : List Addr} {n : Nat} {P : Nat → Value → Prop} {St : Nat → Heap → Prop}
    (W : Walks prog w A.in1 I fp wr n P St) (val : Nat → Int) (hval : ∀ i v, P i v → ∃ t, v = .int (val i) t) (x : Int) (tx : Tok) :
    ∀ (k i : Nat) (s : Shared), n - i = k → i ≤ n → St i s.heap →
    (∀ (r : Bool) (h' : Heap) (tk : Nat), (r = true ↔ ∃ j, i ≤ j ∧ j < n ∧ val j = x) → (∀ b o, b ∉ wr → s.heap.get? b = some o → h'.get? b = some o) → R (.ok (.ret (.bool r))) { s with heap := h', toks := tk }) →
    codeAny (model prog w) A (.builtin "proto.contains_iter" ⟨[.ref I, .int x tx], []⟩) R s := by
  intro k
  induction k with
  | zero =>
    intro i s hk hi hst hR
    have hin : i = n := by omega
    subst hin
    refine codeAny_builtin entry_in_loop ?_
    rw [Around.under_plainId plain_in_loop _]
    show wpAny _ A.in1 (pyNext (.ref I) >>= _) _ _ s
    refine wpAny_bind (W.done s _ _ hst fun h' tk hk' => ?_)
    refine wpAny_bind (wpAny_rule ?_)
    exact wpAny_pure (hR false h' tk ⟨fun h => (nomatch h), fun ⟨j, h1, h2, _⟩ => absurd h2 (by omega)⟩ hk')
  | succ k ih =>
    intro i s hk hi hst hR
    have hlt : i < n := by omega
    refine codeAny_builtin entry_in_loop ?_
    rw [Around.under_plainId plain_in_loop _]
    show wpAny _ A.in1 (pyNext (.ref I) >>= _) _ _ s
    refine wpAny_bind (W.item i s _ _ hlt hst fun v h' tk hP hst' hk' => ?_)
    obtain ⟨t, rfl⟩ := hval i v hP
    refine wpAny_bind (wpAny_eqBool_int ?_)
    by_cases c : val i = x
    · have e : (val i == x) = true := by rw [c]; exact beq_self_eq_true x
      rw [e]
      refine wpAny_bind (wpAny_rule ?_)
      exact wpAny_pure (hR true h' tk ⟨fun _ => ⟨i, Nat.le_refl _, hlt, c⟩, fun _ => rfl⟩ hk')
    · have e : (val i == x) = false := by rw [beq_eq_false_iff_ne]; exact c
      rw [e]
      refine wpAny_pure ⟨plainId_quiet plain_in_loop _, ih (i + 1) _ (by omega) hlt hst' fun r h2 tk2 hr hk2 => hR r h2 tk2 (hr.trans ⟨fun ⟨j, h1, h2, h3⟩ => ⟨j, by omega, h2, h3⟩, fun ⟨j, h1, h2, h3⟩ => ?_⟩) fun b o hb e => hk2 b o hb (hk' b o hb e)⟩
      rcases Nat.eq_or_lt_of_le h1 with z | z
      · exact absurd (z ▸ h3) c
      · exact ⟨j, z, h2, h3⟩
section
variable {X : Cx} {pins : List (Addr × Obj)} {σ : L2.St} {H : Hp} {s : Shared}
def rInV : R2 := fun x y H Q => ∃ (i : Int) (p a : Addr) (kvs : List (Key × V)) (ns : List Int), x = .int i ∧ y = .ref p ∧ H p = some (viewV p a) ∧ H a = some (.dK kvs) ∧ kvs.map (·.2) = ns.map V.int ∧ ∀ b : Bool, (b = true ↔ i ∈ ns) → Q (.bl b) H
theorem op_inV (hc : X.calm = true) : OpR X (compareOp .In) rInV := by
  intro pins s σ H x y v u Q I rx ry h
  obtain ⟨i, p, a, kvs, ns, rfl, rfl, hp, ha, hns, q⟩ := h
  obtain ⟨tx, rfl⟩ : ∃ t, v = Value.int i t := rx
  obtain rfl : u = Value.ref p := ry
  obtain ⟨vs, ep, rel, z, hl, src⟩ := src_of I hp ha
  have hln : vs.length = ns.length := by rw [← hl]; exact len_at hns
  have K := PySem.W.kdl_values (prog := X.prog) (w := X.w) (r := p) (d := a) (knd := mixKind X.prog X.w) (kvs := vs) (ep := ep)
  have hT := K.type s src
  show wpAny _ _ (contains (.ref p) (.int i tx) >>= _) _ _ s
  refine wpAny_bind ?_
  unfold contains
  refine wpAny_holding ?_
  rw [stdlibNamesSay?_of_typeIs hT]
  refine wpAny_bind (wpAny_specialOf hT no_contains ?_)
  show wpAny _ _ (if ((none : Option Value) == some Value.none) = true then _ else _) _ _ s
  rw [if_neg (by decide)]
  refine wpAny_bind (wpAny_callSpecialUnlessNone?_none hT no_contains ?_)
  refine wpAny_bind (wpAny_rule ?_)
  obtain ⟨oI, St, hit, W, st⟩ := K.iter X.A.in1 s (show X.A.in1.handled = none from I.ok.hd hc) src
  refine wpAny_bind (wpAny_tryCatch (wpAny_of_in1 (hit _ _ ?_)))
  refine wpAny_bind (wpAny_runValue ?_)
  refine code_in_loop W (fun i => ns.getD i 0) (fun i v hv => val_at rel hns hv) i tx _ 0 _ rfl (Nat.zero_le _) st fun r h' tk hr hk => ?_
  have hk2 : ∀ b o, s.heap.get? b = some o → h'.get? b = some o := fun b o e =>
    hk b o (fun hI => absurd (Heap.lt_size e) (by rw [List.mem_singleton.mp hI]; exact Nat.lt_irrefl _)) (Heap.get?_push_of_some _ e)
  refine wpAny_pure (wpAny_pure ?_)
  refine ⟨.bl r, H, I.kept hk2, rfl, q r (hr.trans ⟨fun ⟨j, _, h2, h3⟩ => ?_, fun hm => ?_⟩)⟩
  · rw [hln] at h2
    rw [List.getD_eq_getElem?_getD, List.getElem?_eq_getElem h2] at h3
    exact h3 ▸ List.getElem_mem h2
  · obtain ⟨j, h2, h3⟩ := List.getElem_of_mem hm
    exact ⟨j, Nat.zero_le _, by rw [hln]; exact h2, by rw [List.getD_eq_getElem?_getD, List.getElem?_eq_getElem h2]; exact h3⟩
end
end DK

set_option Elab.async false
set_option linter.all false
set_option maxRecDepth 100000
set_option maxHeartbeats 4000000
namespace DK
open PySem PySem.Spec PyProof.Rows L2
/-! ### a table, name by name -/
theorem getC_put (c : CM) (n : Str) (v : Int) (m : Str) : getC (putC c n v) m = if m = n then some v else getC c m := by
  unfold putC
  by_cases h : hasC c n = true
  · rw [if_pos h]
    induction c with
    | nil => cases h
    | cons e c ih =>
      rw [List.map_cons]
      by_cases he : e.1 = n
      · rw [if_pos he]
        by_cases hm : m = n
        · rw [if_pos hm]
          simp [getC, he, hm]
        · rw [if_neg hm]
          have h1 : ¬ e.1 = m := fun z => hm (z.symm.trans he)
          by_cases h2 : hasC c n = true
          · have := ih h2
            rw [if_neg hm] at this
            unfold getC at this ⊢
            rw [List.find?_cons, List.find?_cons, decide_eq_false h1]
            exact this
          · have e1 : c.map (fun e => if e.1 = n then (e.1, v) else e) = c := by
              refine (List.map_congr_left fun x hx => ?_).trans (List.map_id _)
              rw [if_neg fun z => h2 (List.any_eq_true.mpr ⟨x, hx, decide_eq_true z⟩)]
              rfl
            rw [e1]
            unfold getC
            rw [List.find?_cons, List.find?_cons, decide_eq_false h1]
      · rw [if_neg he]
        have h2 : hasC c n = true := by
          unfold hasC at h ⊢
          rw [List.any_cons, decide_eq_false he, Bool.false_or] at h
          exact h
        have := ih h2
        unfold getC at this ⊢
        rw [List.find?_cons, List.find?_cons]
        by_cases h3 : e.1 = m
        · rw [decide_eq_true h3]
          rw [if_neg fun z => he (h3.trans z)]
        · rw [decide_eq_false h3]
          exact this
  · rw [if_neg h]
    have hn : getC c n = none := by
      have := has_get n c
      rw [Bool.eq_false_iff.mpr h] at this
      cases e : getC c n with
      | none => rfl
      | some y => rw [e] at this; cases this
    unfold getC at hn ⊢
    rw [List.find?_append]
    by_cases hm : m = n
    · rw [if_pos hm, hm]
      have : (c.find? fun e => decide (e.1 = n)) = none := Option.map_eq_none_iff.mp hn
      rw [this]
      simp
    · rw [if_neg hm]
      cases e : c.find? fun e => decide (e.1 = m) with
      | some y => rfl
      | none =>
        rw [Option.none_or, List.find?_cons, decide_eq_false (fun z : n = m => hm z.symm)]
        rfl
theorem getD0_put (c : CM) (n : Str) (v : Int) (m : Str) : getD0 (putC c n v) m = if m = n then v else getD0 c m := by
  unfold getD0
  rw [getC_put]
  split <;> rfl
def sumC (c : CM) : Int := (valsC c).sum
theorem sumC_cons (e : Str × Int) (c : CM) : sumC (e :: c) = e.2 + sumC c := by
  unfold sumC valsC
  rw [List.map_cons, List.sum_cons]
theorem getC_cons_ne {e : Str × Int} {c : CM} {m : Str} (h : ¬ e.1 = m) : getC (e :: c) m = getC c m := by
  unfold getC
  rw [List.find?_cons, decide_eq_false h]
theorem getC_cons_eq {e : Str × Int} {c : CM} {m : Str} (h : e.1 = m) : getC (e :: c) m = some e.2 := by
  unfold getC
  rw [List.find?_cons, decide_eq_true h]
  rfl
theorem map_same {c : CM} {n : Str} {v : Int} (h : n ∉ keysC c) : c.map (fun e => if e.1 = n then (e.1, v) else e) = c := by
  refine (List.map_congr_left fun x hx => ?_).trans (List.map_id _)
  rw [if_neg fun z => h (List.mem_map.mpr ⟨x, hx, z⟩)]
  rfl
theorem no_key {c : CM} {n : Str} (h : hasC c n = false) : n ∉ keysC c := fun z => by
  rw [(has_iff c n).mpr z] at h
  cases h
theorem get_none {c : CM} {n : Str} (h : n ∉ keysC c) : getC c n = none := by
  have := has_get n c
  cases e : getC c n with
  | none => rfl
  | some y =>
    rw [e] at this
    exact absurd ((has_iff c n).mp this) h
theorem sum_put {c : CM} (nd : (keysC c).Nodup) (n : Str) (v : Int) : sumC (putC c n v) = sumC c - getD0 c n + v := by
  unfold putC
  by_cases h : hasC c n = true
  · rw [if_pos h]
    induction c with
    | nil => cases h
    | cons e c ih =>
      obtain ⟨n1, n2⟩ := List.nodup_cons.mp (show (e.1 :: keysC c).Nodup from nd)
      rw [List.map_cons, sumC_cons, sumC_cons]
      by_cases he : e.1 = n
      · rw [if_pos he, map_same (by rw [← he]; exact n1)]
        unfold getD0
        rw [getC_cons_eq he]
        show v + sumC c = e.2 + sumC c - e.2 + v
        omega
      · rw [if_neg he]
        have h2 : hasC c n = true := by
          unfold hasC at h ⊢
          rw [List.any_cons, decide_eq_false he, Bool.false_or] at h
          exact h
        have := ih n2 h2
        unfold getD0 at this ⊢
        rw [getC_cons_ne he]
        omega
  · rw [if_neg h]
    have e0 : getD0 c n = 0 := by
      unfold getD0
      rw [get_none (no_key (Bool.eq_false_iff.mpr h))]
      rfl
    rw [e0]
    unfold sumC valsC
    rw [List.map_append, List.sum_append]
    simp
def posC (c : CM) : Prop := ∀ e ∈ c, 0 < e.2
theorem pos_put {c : CM} {n : Str} {v : Int} (h : posC c) (hv : 0 < v) : posC (putC c n v) := by
  intro e he
  unfold putC at he
  split at he
  · obtain ⟨x, hx, rfl⟩ := List.mem_map.mp he
    split
    · exact hv
    · exact h x hx
  · rcases List.mem_append.mp he with he | he
    · exact h e he
    · rw [List.mem_singleton.mp he]
      exact hv
theorem pos_get {c : CM} (h : posC c) (n : Str) : 0 ≤ getD0 c n := by
  unfold getD0 getC
  cases e : c.find? fun e => decide (e.1 = n) with
  | none => exact Int.le_refl _
  | some x =>
    have := h x (List.mem_of_find?_eq_some e)
    show 0 ≤ x.2
    omega
theorem pos_has {c : CM} {n : Str} (h : 0 < getD0 c n) : n ∈ keysC c := by
  refine Classical.byContradiction fun z => ?_
  unfold getD0 at h
  rw [get_none z] at h
  cases h
theorem has_pos {c : CM} {n : Str} (hp : posC c) (h : n ∈ keysC c) : ∃ v, getC c n = some v ∧ 0 < v := by
  have := has_get n c
  rw [(has_iff c n).mpr h] at this
  cases e : getC c n with
  | none => rw [e] at this; cases this
  | some v =>
    refine ⟨v, rfl, ?_⟩
    unfold getC at e
    obtain ⟨x, hx, rfl⟩ := Option.map_eq_some_iff.mp e
    exact hp x (List.mem_of_find?_eq_some hx)
theorem pos_lowered {c : CM} {m : Int} : posC (lowered c m) := by
  intro e he
  unfold lowered at he
  obtain ⟨x, hx, rfl⟩ := List.mem_map.mp he
  have := of_decide_eq_true (List.mem_filter.mp hx).2
  show 0 < x.2 - m
  omega
theorem lowered_cons (e : Str × Int) (c : CM) (m : Int) : lowered (e :: c) m = if m < e.2 then (e.1, e.2 - m) :: lowered c m else lowered c m := by
  unfold lowered
  by_cases h : m < e.2
  · rw [if_pos h, List.filter_cons_of_pos (by exact decide_eq_true h), List.map_cons]
  · rw [if_neg h, List.filter_cons_of_neg (by rw [decide_eq_true_eq]; exact h)]
theorem sum_lowered {m : Int} : ∀ c : CM, (∀ e ∈ c, m ≤ e.2) → sumC (lowered c m) = sumC c - c.length * m
  | [], _ => by simp [lowered, sumC, valsC]
  | e :: c, h => by
    have ih := sum_lowered c fun x hx => h x (List.mem_cons_of_mem _ hx)
    have he := h e (List.mem_cons_self ..)
    rw [lowered_cons, sumC_cons, List.length_cons]
    have hm : ((c.length + 1 : Nat) : Int) * m = (c.length : Int) * m + m := by
      rw [Int.natCast_add, Int.add_mul]
      omega
    rw [hm]
    split
    · rw [sumC_cons, ih]
      show e.2 - m + _ = _
      omega
    · rw [ih]
      omega
/-- what a name has after the lowering -/
theorem get_lowered {c : CM} (nd : (keysC c).Nodup) (hp : posC c) {m : Int} (hm : 0 ≤ m) (n : Str) : getD0 (lowered c m) n = if m < getD0 c n then getD0 c n - m else 0 := by
  induction c with
  | nil =>
    show (0 : Int) = if m < 0 then 0 - m else 0
    rw [if_neg (by omega)]
  | cons e c ih =>
    obtain ⟨n1, n2⟩ := List.nodup_cons.mp (show (e.1 :: keysC c).Nodup from nd)
    have hp2 : posC c := fun x hx => hp x (List.mem_cons_of_mem _ hx)
    have ih := ih n2 hp2
    rw [lowered_cons]
    by_cases he : e.1 = n
    · have e1 : getD0 (e :: c) n = e.2 := by unfold getD0; rw [getC_cons_eq he]; rfl
      rw [e1]
      by_cases h : m < e.2
      · rw [if_pos h, if_pos h]
        unfold getD0
        rw [getC_cons_eq (e := (e.1, e.2 - m)) he]
        rfl
      · rw [if_neg h, if_neg h]
        have : n ∉ keysC (lowered c m) := fun z => n1 (by rw [he]; exact (lowered_keys c m).subset z)
        unfold getD0
        rw [get_none this]
        rfl
    · have e1 : getD0 (e :: c) n = getD0 c n := by unfold getD0; rw [getC_cons_ne he]
      rw [e1, ← ih]
      split
      · unfold getD0
        rw [getC_cons_ne (e := (e.1, e.2 - m)) he]
      · rfl
/-! ### the bounds, and that a coming keeps them -/
structure Bnd (room : Int) (c : CM) (gone total : Int) (t : CM) : Prop where
  nd : (keysC c).Nodup
  ln : (c.length : Int) ≤ room
  ndt : (keysC t).Nodup
  pos : posC c
  post : posC t
  g0 : 0 ≤ gone
  tot : sumC t = total
  sm : sumC c + (room + 1) * gone = total
  lo : ∀ n, getD0 c n ≤ getD0 t n
  hi : ∀ n, getD0 t n ≤ getD0 c n + gone
  few : (t.length : Int) ≤ room → gone = 0 ∧ ∀ n, getC c n = getC t n
theorem bnd_start (room : Int) (h : 1 ≤ room) : Bnd room [] 0 0 [] := ⟨List.nodup_nil, by show ((0 : Nat) : Int) ≤ room; omega, List.nodup_nil, (fun _ h => nomatch h), (fun _ h => nomatch h), Int.le_refl _, rfl, by show (0 : Int) + (room + 1) * 0 = 0; omega, fun _ => Int.le_refl _, fun _ => Int.le_refl _, fun _ => ⟨rfl, fun _ => rfl⟩⟩
theorem same_len {c t : CM} (nc : (keysC c).Nodup) (nt : (keysC t).Nodup) (h : ∀ n, getC c n = getC t n) : c.length = t.length := by
  have p : (keysC c).Perm (keysC t) := (List.perm_ext_iff_of_nodup nc nt).mpr fun n => by
    rw [← has_iff, ← has_iff, has_get, has_get, h]
  have := p.length_eq
  unfold keysC at this
  rw [List.length_map, List.length_map] at this
  exact this
theorem bnd_come {room gone total w : Int} {c t : CM} {n : Str} (B : Bnd room c gone total t) (hw : 1 ≤ w) : Bnd room (come room c n w).1 (gone + (come room c n w).2) (total + w) (putC t n (getD0 t n + w)) := by
  have t0 := pos_get B.post n
  have c0 := pos_get B.pos n
  have st : sumC (putC t n (getD0 t n + w)) = total + w := by
    rw [sum_put B.ndt, B.tot]
    omega
  have few_put : ∀ c' : CM, c' = putC c n (getD0 c n + w) → gone = 0 → (∀ m, getC c m = getC t m) → ∀ m, getC c' m = getC (putC t n (getD0 t n + w)) m := by
    rintro c' rfl g e m
    rw [getC_put, getC_put, e m]
    have : getD0 c n = getD0 t n := by unfold getD0; rw [e n]
    rw [this]
  have tl : (t.length : Int) ≤ ((putC t n (getD0 t n + w)).length : Int) := by
    rw [put_len]
    split <;> omega
  refine ⟨come_nodup B.nd, come_len B.ln, put_nodup B.ndt, ?_, pos_put B.post (by omega), ?_, st, ?_, ?_, ?_, ?_⟩
  · unfold come
    split
    · dsimp only
      split
      · refine pos_put pos_lowered ?_
        have := pos_get (pos_lowered (c := c) (m := minL w (valsC c))) n
        omega
      · exact pos_lowered
    · exact pos_put B.pos (by omega)
  all_goals unfold come
  all_goals split
  all_goals try dsimp only
  -- what is lost
  · rename_i h
    have := B.g0
    rcases minL_mem (valsC c) w with e | e
    · omega
    · unfold valsC at e
      obtain ⟨z, hz, ez⟩ := List.mem_map.mp e
      have := B.pos z hz
      unfold valsC
      omega
  · have := B.g0
    omega
  -- the sum
  · rename_i h
    obtain ⟨l1, l2⟩ := minL_le (valsC c) w
    generalize hmm : minL w (valsC c) = mm at l1 l2 ⊢
    have hk := no_key h.1
    have s1 := sum_lowered (m := mm) c fun e he => l2 e.2 (List.mem_map_of_mem he)
    rw [h.2] at s1
    have e0 : getD0 (lowered c mm) n = 0 := by
      unfold getD0
      rw [get_none fun z => hk ((lowered_keys c mm).subset z)]
      rfl
    have e1 : (room + 1) * (gone + mm) = (room + 1) * gone + room * mm + mm := by
      rw [Int.mul_add, Int.add_mul room 1 mm]
      omega
    have sm := B.sm
    rw [e1]
    split
    · rw [sum_put (lowered_nodup B.nd), s1, e0]
      omega
    · rw [s1]
      omega
  · rw [sum_put B.nd]
    have := B.sm
    rw [show gone + 0 = gone by omega]
    omega
  -- from below
  · rename_i h
    intro m
    obtain ⟨l1, l2⟩ := minL_le (valsC c) w
    have m0 : 0 ≤ minL w (valsC c) := by
      rcases minL_mem (valsC c) w with e | e
      · omega
      · unfold valsC at e
        obtain ⟨z, hz, ez⟩ := List.mem_map.mp e
        have := B.pos z hz
        unfold valsC
        omega
    generalize minL w (valsC c) = mm at l1 l2 m0 ⊢
    have hk := no_key h.1
    have e0 : getD0 (lowered c mm) n = 0 := by
      unfold getD0
      rw [get_none fun z => hk ((lowered_keys c mm).subset z)]
      rfl
    have gl := get_lowered B.nd B.pos m0 m
    have lo := B.lo m
    have pm := pos_get B.pos m
    by_cases hmn : m = n
    · subst hmn
      split
      · rw [getD0_put, getD0_put, e0, if_pos rfl, if_pos rfl]
        omega
      · rw [getD0_put, e0, if_pos rfl]
        omega
    · split
      · rw [getD0_put, getD0_put, if_neg hmn, if_neg hmn, gl]
        split <;> omega
      · rw [getD0_put, if_neg hmn, gl]
        split <;> omega
  · intro m
    rw [getD0_put, getD0_put]
    have := B.lo m
    have := B.lo n
    split <;> omega
  -- from above
  · rename_i h
    intro m
    obtain ⟨l1, l2⟩ := minL_le (valsC c) w
    have m0 : 0 ≤ minL w (valsC c) := by
      rcases minL_mem (valsC c) w with e | e
      · omega
      · unfold valsC at e
        obtain ⟨z, hz, ez⟩ := List.mem_map.mp e
        have := B.pos z hz
        unfold valsC
        omega
    generalize minL w (valsC c) = mm at l1 l2 m0 ⊢
    have hk := no_key h.1
    have e0 : getD0 (lowered c mm) n = 0 := by
      unfold getD0
      rw [get_none fun z => hk ((lowered_keys c mm).subset z)]
      rfl
    have ec : getD0 c n = 0 := by
      unfold getD0
      rw [get_none hk]
      rfl
    have gl := get_lowered B.nd B.pos m0 m
    have hi := B.hi m
    have hin := B.hi n
    have pm := pos_get B.pos m
    by_cases hmn : m = n
    · subst hmn
      split
      · rw [getD0_put, getD0_put, e0, if_pos rfl, if_pos rfl]
        omega
      · rw [getD0_put, e0, if_pos rfl]
        omega
    · split
      · rw [getD0_put, getD0_put, if_neg hmn, if_neg hmn, gl]
        split <;> omega
      · rw [getD0_put, if_neg hmn, gl]
        split <;> omega
  · intro m
    rw [getD0_put, getD0_put]
    have := B.hi m
    have := B.hi n
    split <;> omega
  -- few names
  · rename_i h
    intro hf
    obtain ⟨g, e⟩ := B.few (by omega)
    have sl := same_len B.nd B.ndt e
    have hnt : hasC t n = false := by
      rw [has_get, ← e n, ← has_get]
      exact h.1
    rw [put_len, hnt, if_neg (by decide)] at hf
    have := h.2
    omega
  · intro hf
    obtain ⟨g, e⟩ := B.few (by omega)
    exact ⟨by omega, few_put _ rfl g e⟩
/-! ### what a law asks of the bounds -/
theorem heavy_in {room gone total : Int} {c t : CM} (B : Bnd room c gone total t) {n : Str} (hr : 1 ≤ room) (h : total < getD0 t n * (room + 1)) : n ∈ keysC c ∧ total < (getD0 c n + gone) * (room + 1) := by
  have hi := B.hi n
  have p0 : ∀ e ∈ c, 0 < e.2 := B.pos
  have s0 : 0 ≤ sumC c := by
    have : ∀ c : CM, posC c → 0 ≤ sumC c := by
      intro c
      induction c with
      | nil => intro _; exact Int.le_refl _
      | cons e c ih =>
        intro hp
        rw [sumC_cons]
        have := ih fun x hx => hp x (List.mem_cons_of_mem _ hx)
        have := hp e (List.mem_cons_self ..)
        omega
    exact this c B.pos
  have h2 : getD0 t n * (room + 1) ≤ (getD0 c n + gone) * (room + 1) := Int.mul_le_mul_of_nonneg_right hi (by omega)
  refine ⟨Classical.byContradiction fun z => ?_, by omega⟩
  have e0 : getD0 c n = 0 := by
    unfold getD0
    rw [get_none z]
    rfl
  rw [e0, Int.zero_add, Int.mul_comm gone] at h2
  have := B.sm
  omega
theorem sure_in {room gone total : Int} {c t : CM} (B : Bnd room c gone total t) {n : Str} (hr : 1 ≤ room) (hk : n ∈ keysC c) (h : total < (getD0 c n + 0) * (room + 1)) : n ∈ keysC t ∧ total < getD0 t n * (room + 1) := by
  have lo := B.lo n
  rw [Int.add_zero] at h
  have h2 : getD0 c n * (room + 1) ≤ getD0 t n * (room + 1) := Int.mul_le_mul_of_nonneg_right lo (by omega)
  obtain ⟨v, hv, hv0⟩ := has_pos B.pos hk
  have e : getD0 c n = v := by unfold getD0; rw [hv]; rfl
  exact ⟨pos_has (by omega), by omega⟩
theorem inV_str (n : Str) (l : List Str) : inV (.str n) (l.map V.str) = true ↔ n ∈ l := by
  unfold inV
  rw [List.any_map, List.any_eq_true]
  constructor
  · rintro ⟨x, hx, h⟩
    have : (x == n) = true := h
    rw [← eq_of_beq this]
    exact hx
  · intro h
    exact ⟨n, h, beq_self_eq_true n⟩
theorem flat_strs (l : List Str) : (l.map V.str).all flatV = true := by
  rw [List.all_map, List.all_eq_true]
  intro x _
  rfl
end DK

set_option Elab.async false
set_option linter.all false
set_option maxRecDepth 100000
set_option maxHeartbeats 4000000
namespace DK
open PySem PySem.Spec PyProof.Rows L2
/-! ### a caught exception that is held on by a name -/
/-- an exception of the class cls stands at a, nobody throws it any more -/
def Held (cls : Value) (d : Option Addr) (a : Addr) : HO := .ext fun h => ∃ (oe : Obj) (vs : Array Value), h.get? a = some oe ∧ Zc cls d oe ∧ oe.data = .fields vs
theorem held_ok {P : Program} {w : World} {H : Hp} {h : Heap} {a : Addr} {cls : Value} {d : Option Addr} {oe : Obj} {vs : Array Value} (e : h.get? a = some oe) (z : Zc cls d oe) (hd : oe.data = .fields vs) : ObjOk P w H h a (Held cls d a) :=
  ⟨⟨oe, vs, e, z, hd⟩, ⟨oe, e⟩, fun _ _ ⟨o, v, q, r⟩ k => ⟨o, v, k o q, r⟩⟩
section
variable {X : Cx} {pins : List (Addr × Obj)} {σ : L2.St} {H : Hp} {s : Shared}
/-- what the heap holds beside, new since the entry, may be tracked from here on -/
theorem beside {a : Addr} {cls : Value} {d : Option Addr} {oe : Obj} {vs : Array Value} (I : Inv X pins σ H s) (there : s.heap.get? a = some oe) (z : Zc cls d oe) (flds : oe.data = .fields vs) (na : H a = none)
    (fresh : X.s_0.heap.get? a = none) (apart : ∀ p ∈ X.pn ++ pins, p.1 ≠ a) (nL : X.env.locals ≠ a) (nC : ∀ x c, X.env.cells.lookup x = some c → c ≠ a) : Inv X pins σ (upd H a (Held cls d a)) s := by
  have old : ∀ (b : Addr) (o : Obj), X.s_0.heap.get? b = some o → b ≠ a := by
    intro b o e same
    rw [same, fresh] at e
    exact nomatch e
  have other : ∀ {b : Addr} {o : HO}, H b = some o → b ≠ a := by
    intro b o e same
    rw [same, na] at e
    exact nomatch e
  refine { ok := I.ok, os := I.os, bare := I.bare, base := ?base, loc := I.loc, cell := I.cell, free := ?free, freeC := ?freeC, pin := ?pin, hok := ?hok, len := I.len }
  case base =>
    refine { keep := I.base.keep, slot := I.base.slot, free := ?_, there := I.base.there, tups := ?_, frzs := ?_, tbls := ?_ }
    · intro b o e n hx
      rw [upd_ne (old b o e)]
      exact I.base.free b o e n hx
    · intro b xs e
      have now := I.base.tups b xs e
      rw [upd_ne (other now)]
      exact now
    · intro b o u e
      have now := I.base.frzs b o u e
      rw [upd_ne (other now)]
      exact now
    · intro b ps e
      obtain ⟨more, now⟩ := I.base.tbls b ps e
      refine ⟨more, ?_⟩
      rw [upd_ne (other now)]
      exact now
  case free =>
    rw [upd_ne nL]
    exact I.free
  case freeC =>
    intro x c e
    rw [upd_ne (nC x c e)]
    exact I.freeC x c e
  case pin =>
    intro p hp
    obtain ⟨h1, h2, h3⟩ := I.pin p hp
    refine ⟨h1, ?_, h3⟩
    rw [upd_ne (apart p hp)]
    exact h2
  case hok =>
    intro b o e
    by_cases same : b = a
    · subst same
      rw [upd_same] at e
      obtain rfl := Option.some.inj e
      exact held_ok there z flds
    · rw [upd_ne same] at e
      refine (I.hok b o e).stay (fun _ _ _ q => q) (fun c q => ?_) (fun c xs q => ?_)
      · rw [upd_ne (other q)]
        exact q
      · rw [upd_ne (other q)]
        exact q
end
/-- what 'except x as n: y = n' wishes: slot i is n's, slot j is y's -/
def wHold (K : PySem.W.Frag) (len : Nat) (c : Value) (i j : Nat) (Wout : WX) (D : Ends) : WX := fun cls d σ H =>
  ∃ b, PySem.W.exmOne K cls c = some b ∧ (b = true → ∀ a, H a = none → σ.length = len → D.nx (((σ.set i (some (.ref a))).set j (some (.ref a))).set i none) (upd H a (Held cls d a))) ∧ (b = false → Wout cls d σ H)
section
variable {X : Cx} {x n y : Str} {c : Value} {i j : Nat} {body : List Stmt} {np pos pos' : Pos} {tb : WX → TS} {Wout : WX} {st : Stmt}
theorem ps_try_hold (hstack : X.stack = X.env :: X.outer) (hframe : X.env.frame = some X.env.locals) (hex : X.ex = []) (hN : X.N.Nodup) (hi : X.N[i]? = some n) (hlocal : X.env.kindOf n = some .local) (hname : Names X x c) (tk : Takes X Wout)
    (hbody : ∀ (W : WX) (pn : List (Addr × Obj)) (xe : Value → Shared → Prop), Takes (X.tr pn xe) W → PassesOwn (model X.prog X.w) X.A X.env xe → PSs (X.tr pn xe) body (tb W))
    (hsuite : ∀ (a : Addr) (pn : List (Addr × Obj)), PSs (X.suite a pn) [st] (tAsg (tVar i) (gName j))) :
    PS X (.Try body [.ExceptHandler (some (.Name x np)) (some n) [st] pos'] [] [] pos) (fun D σ H => tb (wHold X.K X.N.length c i j Wout D) D σ H) := by
  refine ⟨fun pins s σ H D I h => ?_⟩
  have ok := I.ok
  have frames : X.A.frames = some (X.env :: X.outer) := by rw [ok.frames, hstack]
  let caught : Value → Shared → Prop := fun e s₁ => wpAny (model X.prog X.w) X.A (noteFrame e X.env) (fun _ s₂ => wpAny (model X.prog X.w) X.A (setFlight e none)
    (fun _ s₃ => wpAny (model X.prog X.w) X.A (handleBy e X.env [.ExceptHandler (some (.Name x np)) (some n) [st] pos']) (SP X pins D) X.xe s₃) X.xe s₂) X.xe s₁
  refine wpAny_Try_except (wpAny_mono ((hbody (wHold X.K X.N.length c i j Wout D) (X.pn ++ pins) caught ?takes PassesOwn.looking).run [] s σ H D (I.toTry _) h) ?flows fun _ _ z => z)
  case flows =>
    intro f s1 ended
    cases f with
    | next =>
      obtain ⟨σ', H', J, q⟩ := ended
      exact wpAny_execs_nil ⟨σ', H', J.ofTry ok, q⟩
    | brk =>
      obtain ⟨σ', H', J, q⟩ := ended
      exact ⟨σ', H', J.ofTry ok, q⟩
    | cont =>
      obtain ⟨σ', H', J, q⟩ := ended
      exact ⟨σ', H', J.ofTry ok, q⟩
    | ret u =>
      obtain ⟨v, σ', H', J, r, q⟩ := ended
      exact ⟨v, σ', H', J.ofTry ok, r, q⟩
  case takes =>
    rintro u s' ⟨a, B, sI, pinsI, σ', H', cls, d, rfl, J, ground, upto, sky, na, os, bare, b, hasked, hyes, hno⟩
    have J : Inv X pins σ' H' sI := J.ofTry ok
    have sky : Sky B (X.env :: X.outer) a (Zc cls d) X.env.locals s'.heap := by
      rw [← hstack]
      exact sky
    show wpAny (model X.prog X.w) X.A (noteFrame (.ref a) X.env) _ _ _
    refine Sky.land Zc.steady frames hframe sky fun h3 fly3 up3 => ?_
    have all3 := upto.trans up3
    have J3 : Inv X pins σ' H' { s' with heap := h3 } := J.landed ground fly3.1 all3 os bare
    obtain ⟨oe3, vs3, he3, hz3, hd3⟩ := fly3.there
    have notFrame : a ∉ frs (X.env :: X.outer) := by
      intro hm
      obtain ⟨_, o2, e2, no⟩ := fly3.2.2.1.mem hm
      rw [he3] at e2
      obtain rfl := Option.some.inj e2
      exact no _ hd3
    have unborn : sI.heap.get? a = none := by
      cases e : sI.heap.get? a with
      | none => rfl
      | some o =>
        have inB := ground a o e (by rw [hstack]; exact notFrame)
        rw [fly3.2.1] at inB
        exact nomatch inB
    have fresh : X.s_0.heap.get? a = none := by
      cases e : X.s_0.heap.get? a with
      | none => rfl
      | some o =>
        obtain ⟨o2, e2⟩ := J.base.there a o e (by rw [hex]; exact fun z => nomatch z)
        rw [unborn] at e2
        exact nomatch e2
    have apart : ∀ p ∈ X.pn ++ pins, p.1 ≠ a := by
      intro p hp same
      have born := (J.pin p hp).1
      rw [same, unborn] at born
      exact nomatch born
    have nL : X.env.locals ≠ a := by
      intro same
      refine notFrame (List.mem_filterMap.mpr ⟨X.env, List.mem_cons_self, ?_⟩)
      rw [hframe, same]
    have nF : a ∉ X.fs := by
      intro hm
      obtain ⟨e, he, q⟩ := List.mem_filterMap.mp hm
      exact notFrame (List.mem_filterMap.mpr ⟨e, List.mem_cons_of_mem _ he, q⟩)
    have nC : ∀ x c, X.env.cells.lookup x = some c → c ≠ a := by
      intro x c e same
      obtain ⟨v, o, ho, _⟩ := J.cell x c e
      rw [same, unborn] at ho
      exact nomatch ho
    have in3 := J3.suite he3 hd3 na (Ne.symm nL) nF
    refine wpAny_handleBy_cons (codeAny_handlers_test ?_) (by intro q; cases q)
    have kind : PySem.W.Looks (model X.prog X.w) h3 (typeOf (.ref a)) cls := by
      intro A Q E s keeps q
      refine wpAny_typeOf_ref (keeps _ _ he3) ?_
      rw [hz3.1]
      exact q
    have answer := PySem.W.exm_one (M := model X.prog X.w) J3.kIn kind hasked
    have named : ∀ {Q : Value → Shared → Prop} {E : Value → Shared → Prop}, Q c { s' with heap := h3 } →
        wpAny (model X.prog X.w) (X.A.mark (some (.ref a))) (eval (.Name x np) X.env) Q E { s' with heap := h3 } := by
      intro Q E q
      obtain ⟨hg, hdbg, found | ⟨unfound, built, notName⟩⟩ := hname
      · exact ld_glob (X := X.suite a ((a, oe3) :: (X.pn ++ pins))) in3 hg found q hdbg
      · exact ld_blt (X := X.suite a ((a, oe3) :: (X.pn ++ pins))) in3 hg unfound built q notName hdbg
    refine named (answer.here ?_)
    cases b with
    | true =>
      refine codeAny_handlers_suite_as (HandSPX.lands_againZ fly3 fun h4 fly4 up4 => ?_)
      have J4 : Inv X pins σ' H' { s' with heap := h4 } := J.landed ground fly4.1 (all3.trans up4) os bare
      obtain ⟨oe4, vs4, he4, hz4, hd4⟩ := fly4.there
      have in4 := J4.suite he4 hd4 na (Ne.symm nL) nF
      refine store_ok (X := X.suite a ((a, oe4) :: (X.pn ++ pins))) (v := .ref a) in4 hN hi (.inl hlocal) rfl (fun s5 in5 => ?_) (.inr hlocal)
      have inside : i < σ'.length := by
        rw [J4.len]
        exact (List.getElem?_eq_some_iff.mp hi).1
      have start : tAsg (tVar i) (gName j) { nx := fun σ6 H6 => σ6 = (σ'.set i (some (.ref a))).set j (some (.ref a)) ∧ H6 = H', rt := fun _ _ => False } (σ'.set i (some (.ref a))) H' :=
        ⟨.ref a, List.getElem?_set_self inside, rfl, rfl⟩
      refine wpAny_mono ((hsuite a ((a, oe4) :: (X.pn ++ pins))).run [] s5 _ H' _ in5 start) (fun f s6 ended => ?_) (fun _ _ z => False.elim z)
      cases f with
      | next =>
        obtain ⟨σ6, H6, in6, rfl, rfl⟩ := ended
        have pinned := in6.pin (a, oe4) (List.mem_append_left _ (List.mem_cons_self ..))
        have J6 := beside (in6.unsuite ok) pinned.1 hz4 hd4 pinned.2.1 fresh apart nL nC
        exact gone_ok J6 hN hi hlocal fun s7 J7 => ⟨_, _, J7, hyes rfl a na J4.len⟩
      | brk =>
        obtain ⟨_, _, _, z⟩ := ended
        exact z.elim
      | cont =>
        obtain ⟨_, _, _, z⟩ := ended
        exact z.elim
      | ret u =>
        obtain ⟨_, _, _, _, _, z⟩ := ended
        exact z.elim
    | false =>
      show wpAny _ X.A (handleBy (.ref a) X.env []) _ _ _
      refine wpAny_handleBy_nil ?_
      obtain ⟨_, _, _, oe, vs, T, oT, ts, he, hz, hd, h1, hr⟩ := id fly3
      have on : wpAny (model X.prog X.w) X.A (setFlight (.ref a) X.env.frame) (fun _ s4 => wpAny (model X.prog X.w) X.A (throw (.ref a) : Sem Flow) (SP X pins D) X.xe s4) X.xe { s' with heap := h3 } := by
        rw [hframe]
        refine HandSPX.setFlight_upZ fly3 fun h4 held4 up4 => wpAny_throw (tk _ _ ⟨a, B, sI, pins, σ', H', cls, d, rfl, J, ground, all3.trans up4, ?_, na, os, bare, hno rfl⟩)
        rw [hstack]
        exact .inr (.inr held4)
      unfold PySem.passOn
      refine wpAny_bind (wpAny_field he hd h1 ?_)
      have some' : ¬ ((Value.ref T == Value.none) = true) := by simp
      rw [if_neg some']
      first
        | exact wpAny_bind (wpAny_pure (wpAny_bind on))
        | exact wpAny_bind on
end
/-! ### isinstance of such an exception -/
/-- isinstance(e, c) -/
def rIsX (K : PySem.W.Frag) : List V → Hp → VK → Prop := fun xs H Q => ∃ (a D : Addr) (c : V) (cv : Value) (b : Bool), xs = [.ref a, c] ∧ H a = some (Held (.ref D) none a) ∧ ExcC K D ∧ ClsV c cv ∧ PySem.W.kitOne K (.ref D) cv = some b ∧ Q (.bl b) H
/-- isinstance(e, (c1, c2, ..)) -/
def rIsXT (K : PySem.W.Frag) : List V → Hp → VK → Prop := fun xs H Q => ∃ (a D tp : Addr) (cs : List V) (us : List Value) (b : Bool), xs = [.ref a, .ref tp] ∧ H a = some (Held (.ref D) none a) ∧ H tp = some (.tup cs) ∧ ExcC K D ∧ Paired ClsV cs us ∧ PySem.W.kitAny K (.ref D) us = some b ∧ Q (.bl b) H
section
variable {X : Cx} {pins : List (Addr × Obj)} {σ : L2.St} {H : Hp} {s : Shared}
theorem held_at {a D : Addr} (I : Inv X pins σ H s) (h : H a = some (Held (.ref D) none a)) : ∃ oe, PySem.W.InstAt s.heap a oe D none := by
  obtain ⟨⟨oc, od, dat, sl⟩, vs, e, ⟨z1, z2⟩, hd⟩ := (show ObjOk X.prog X.w H s.heap a (Held (.ref D) none a) from I.hok a _ h).1
  dsimp only at z1 z2 hd
  subst z1 z2 hd
  exact ⟨_, e, rfl, rfl, trivial⟩
theorem call_isX : CallR X (.builtin "isinstance") (rIsX X.K) := by
  intro pins s σ H xs us Q I r h
  obtain ⟨a, D, c, cv, b, rfl, ha, C, k, e, q⟩ := h
  obtain ⟨u1, u2, rfl, r1, r2⟩ := vals2 r
  obtain rfl : u1 = Value.ref a := r1
  obtain rfl := k.eq r2
  obtain ⟨oe, J⟩ := held_at I ha
  exact PySem.W.kia_one (PySem.W.handS_kitx_exc C.hg C.hk C.hs C.hd C.ha C.hn C.ht C.hm) I.kIn J e (fun z => nomatch z) fun tk => ⟨.bl b, H, I.tok tk, rfl, q⟩
theorem call_isXT : CallR X (.builtin "isinstance") (rIsXT X.K) := by
  intro pins s σ H xs us Q I r h
  obtain ⟨a, D, tp, cs, ws, b, rfl, ha, hT, C, k, e, q⟩ := h
  obtain ⟨u1, u2, rfl, r1, r2⟩ := vals2 r
  obtain rfl : u1 = Value.ref a := r1
  obtain rfl : u2 = Value.ref tp := r2
  obtain ⟨oe, J⟩ := held_at I ha
  obtain ⟨_, its, rv, ⟨oc, od, dt, sl⟩, h1, h2, n, h3⟩ := (show ObjOk X.prog X.w H s.heap tp (.tup cs) from I.hok tp _ hT)
  obtain rfl := ClsV.all k rv
  dsimp only at h2 h3
  subst h2 h3
  exact PySem.W.kia_tup (PySem.W.handS_kitx_exc C.hg C.hk C.hs C.hd C.ha C.hn C.ht C.hm) I.kIn J h1 e (fun z => nomatch z) fun tk => ⟨.bl b, H, I.tok tk, rfl, q⟩
end
end DK

set_option Elab.async false
set_option linter.all false
set_option maxRecDepth 100000
set_option maxHeartbeats 4000000
namespace DK
open PySem PySem.Spec PyProof.Rows L2
/-! ### what is taken from every count, where more names stand than drawers -/
def ige (x y : Int) : Bool := decide (y ≤ x)
/-- falling -/
def falls (l : List Int) : List Int := l.mergeSort ige
theorem falls_perm (l : List Int) : (falls l).Perm l := List.mergeSort_perm _ _
theorem ige_tr (a b c : Int) (h1 : ige a b = true) (h2 : ige b c = true) : ige a c = true := decide_eq_true (Int.le_trans (of_decide_eq_true h2) (of_decide_eq_true h1))
theorem ige_tot (a b : Int) : (ige a b || ige b a) = true := by
  rw [Bool.or_eq_true]
  rcases Int.le_total a b with h | h
  · exact .inr (decide_eq_true h)
  · exact .inl (decide_eq_true h)
theorem falls_pw (l : List Int) : (falls l).Pairwise fun x y => ige x y = true := List.pairwise_mergeSort ige_tr ige_tot l
theorem falls_eq {ys l : List Int} (p : ys.Perm l) (h : ys.Pairwise (· ≥ ·)) : ys = falls l :=
  (p.trans (falls_perm l).symm).eq_of_pairwise (le := fun x y => x ≥ y) (fun a b _ _ h1 h2 => Int.le_antisymm h2 h1) h ((falls_pw l).imp fun h => of_decide_eq_true h)
def cutAt (room : Int) (c : CM) : Int := if room < (c.length : Int) then (falls (valsC c)).getD room.toNat 0 else 0
theorem vals_len (c : CM) : (valsC c).length = c.length := by unfold valsC; rw [List.length_map]
theorem falls_len (c : CM) : (falls (valsC c)).length = c.length := by rw [(falls_perm _).length_eq, vals_len]
theorem cut_at {room : Int} {c : CM} (h0 : 0 ≤ room) (h : room < (c.length : Int)) : (falls (valsC c))[room.toNat]? = some (cutAt room c) := by
  unfold cutAt
  rw [if_pos h, List.getD_eq_getElem?_getD]
  have hl : room.toNat < (falls (valsC c)).length := by rw [falls_len]; omega
  rw [List.getElem?_eq_getElem hl]
  rfl
theorem cut_pos {room : Int} {c : CM} (h0 : 0 ≤ room) (hp : posC c) : 0 ≤ cutAt room c := by
  by_cases h : room < (c.length : Int)
  · have hm := List.mem_of_getElem? (cut_at h0 h)
    obtain ⟨e, he, h1⟩ := List.mem_map.mp ((falls_perm _).mem_iff.mp hm)
    have := hp e he
    omega
  · unfold cutAt
    rw [if_neg h]
    exact Int.le_refl _
/-- no more stand behind than there are drawers -/
theorem cut_len {room : Int} {c : CM} (h0 : 0 ≤ room) : ((lowered c (cutAt room c)).length : Int) ≤ room := by
  by_cases h : room < (c.length : Int)
  · have hm := cut_at h0 h
    generalize cutAt room c = m at hm
    have e1 : (lowered c m).length = ((valsC c).filter fun x => decide (m < x)).length := by
      unfold lowered valsC
      rw [List.length_map, List.filter_map, List.length_map]
      rfl
    have e2 := ((falls_perm (valsC c)).filter fun x => decide (m < x)).length_eq
    have split : falls (valsC c) = (falls (valsC c)).take room.toNat ++ (falls (valsC c)).drop room.toNat := (List.take_append_drop _ _).symm
    have dropNil : ((falls (valsC c)).drop room.toNat).filter (fun x => decide (m < x)) = [] := by
      rw [List.filter_eq_nil_iff]
      intro x hx hlt
      have hlt := of_decide_eq_true hlt
      obtain ⟨k, hk⟩ := List.mem_iff_getElem?.mp hx
      rw [List.getElem?_drop] at hk
      obtain ⟨hr, er⟩ := List.getElem?_eq_some_iff.mp hm
      obtain ⟨hj, ej⟩ := List.getElem?_eq_some_iff.mp hk
      by_cases hk0 : k = 0
      · subst hk0
        simp only [Nat.add_zero] at ej
        rw [er] at ej
        omega
      · have := of_decide_eq_true (List.pairwise_iff_getElem.mp (falls_pw (valsC c)) room.toNat (room.toNat + k) hr hj (by omega))
        rw [er, ej] at this
        omega
    rw [split, List.filter_append, dropNil, List.append_nil] at e2
    have l1 := List.length_filter_le (fun x => decide (m < x)) ((falls (valsC c)).take room.toNat)
    rw [List.length_take] at l1
    omega
  · have := lowered_len c (cutAt room c)
    omega
theorem lowered_zero {c : CM} (hp : posC c) : lowered c 0 = c := by
  induction c with
  | nil => rfl
  | cons e c ih =>
    rw [lowered_cons, if_pos (hp e (List.mem_cons_self ..)), ih fun x hx => hp x (List.mem_cons_of_mem _ hx)]
    rw [Int.sub_zero]
theorem cut_few {room : Int} {c : CM} (h : ¬ room < (c.length : Int)) : cutAt room c = 0 := by
  unfold cutAt
  rw [if_neg h]
/-! ### the order of a table does not matter -/
theorem perm_of_get {a b : CM} (na : (keysC a).Nodup) (nb : (keysC b).Nodup) (h : ∀ n, getC a n = getC b n) : a.Perm b := by
  have of : ∀ l : CM, (keysC l).Nodup → l.Nodup := fun l h => List.Pairwise.imp (fun h e => h (by rw [e])) (List.pairwise_map.mp h)
  have da := of a na
  have db := of b nb
  refine (List.perm_ext_iff_of_nodup da db).mpr fun e => ?_
  obtain ⟨n, v⟩ := e
  rw [← getC_mem na, ← getC_mem nb, h]
theorem vals_perm {a b : CM} (p : a.Perm b) : (valsC a).Perm (valsC b) := p.map _
theorem cut_perm {room : Int} {a b : CM} (p : a.Perm b) : cutAt room a = cutAt room b := by
  have e : falls (valsC a) = falls (valsC b) := falls_eq ((falls_perm _).trans (vals_perm p)) ((falls_pw _).imp fun h => of_decide_eq_true h)
  unfold cutAt
  rw [p.length_eq, e]
theorem lowered_perm {a b : CM} (p : a.Perm b) (m : Int) : (lowered a m).Perm (lowered b m) := (p.filter _).map _
theorem pos_perm {a b : CM} (p : a.Perm b) (h : posC b) : posC a := fun e he => h e (p.mem_iff.mp he)
theorem nodup_perm {a b : CM} (p : a.Perm b) (h : (keysC b).Nodup) : (keysC a).Nodup := (perm_keys p).nodup_iff.mpr h
theorem put_perm {a b : CM} (nb : (keysC b).Nodup) (p : a.Perm b) (n : Str) (v : Int) : (putC a n v).Perm (putC b n v) :=
  perm_of_get (put_nodup (nodup_perm p nb)) (put_nodup nb) fun m => by rw [getC_put, getC_put, getC_perm nb p]
theorem minL_perm {a b : List Int} (p : a.Perm b) (w : Int) : minL w a = minL w b := by
  obtain ⟨h1, h2⟩ := minL_le a w
  refine minL_uniq ?_ h1 fun y hy => h2 y (p.mem_iff.mpr hy)
  rcases minL_mem a w with h | h
  · exact .inl h
  · exact .inr (p.mem_iff.mp h)
theorem has_perm {a b : CM} (p : a.Perm b) (n : Str) : hasC a n = hasC b n := by
  rw [Bool.eq_iff_iff, has_iff, has_iff]
  exact (perm_keys p).mem_iff
theorem getD0_perm {a b : CM} (nb : (keysC b).Nodup) (p : a.Perm b) (n : Str) : getD0 a n = getD0 b n := by
  unfold getD0
  rw [getC_perm nb p]
theorem come_perm {a b : CM} (nb : (keysC b).Nodup) (p : a.Perm b) (room : Int) (n : Str) (w : Int) : (come room a n w).1.Perm (come room b n w).1 ∧ (come room a n w).2 = (come room b n w).2 := by
  have e1 := has_perm p n
  have e2 := p.length_eq
  have e3 := minL_perm (vals_perm p) w
  unfold come
  rw [e1, e2, e3]
  split
  · dsimp only
    refine ⟨?_, rfl⟩
    have pl := lowered_perm p (minL w (valsC b))
    rw [getD0_perm (lowered_nodup nb) pl]
    split
    · exact put_perm (lowered_nodup nb) pl n _
    · exact pl
  · rw [getD0_perm nb p]
    exact ⟨put_perm nb p n _, rfl⟩
theorem pos_come {room w : Int} {c : CM} {n : Str} (hp : posC c) (hw : 0 < w) : posC (come room c n w).1 := by
  unfold come
  split
  · dsimp only
    split
    · refine pos_put pos_lowered ?_
      have := pos_get (pos_lowered (c := c) (m := minL w (valsC c))) n
      omega
    · exact pos_lowered
  · refine pos_put hp ?_
    have := pos_get hp n
    omega
/-! ### one table poured into another -/
def addC (a b : CM) : CM := b.foldl (fun acc e => putC acc e.1 (getD0 acc e.1 + e.2)) a
theorem add_nodup : ∀ (b : CM) {a : CM}, (keysC a).Nodup → (keysC (addC a b)).Nodup
  | [], _, h => h
  | e :: b, a, h => add_nodup b (a := putC a e.1 (getD0 a e.1 + e.2)) (put_nodup h)
theorem add_get : ∀ (b : CM) (a : CM) (n : Str), (keysC b).Nodup → getC (addC a b) n = match getC b n with | some v => some (getD0 a n + v) | none => getC a n
  | [], a, n, _ => rfl
  | e :: b, a, n, nd => by
    obtain ⟨n1, n2⟩ := List.nodup_cons.mp (show (e.1 :: keysC b).Nodup from nd)
    have ih := add_get b (putC a e.1 (getD0 a e.1 + e.2)) n n2
    show getC (addC (putC a e.1 (getD0 a e.1 + e.2)) b) n = _
    rw [ih, getC_put, getD0_put]
    by_cases h : e.1 = n
    · subst h
      rw [get_none n1, getC_cons_eq rfl]
      dsimp only
      rw [if_pos rfl]
    · rw [getC_cons_ne h, if_neg (fun z => h z.symm), if_neg (fun z => h z.symm)]
theorem add_perm {a b a' b' : CM} (na : (keysC a').Nodup) (nb : (keysC b').Nodup) (pa : a.Perm a') (pb : b.Perm b') : (addC a b).Perm (addC a' b') :=
  perm_of_get (add_nodup b (nodup_perm pa na)) (add_nodup b' na) fun n => by
    rw [add_get b a n (nodup_perm pb nb), add_get b' a' n nb, getC_perm nb pb, getC_perm na pa, getD0_perm na pa]
theorem add_pos : ∀ (b : CM) {a : CM}, posC a → posC b → posC (addC a b)
  | [], _, h, _ => h
  | e :: b, a, h, h2 => add_pos b (a := putC a e.1 (getD0 a e.1 + e.2)) (pos_put h (by have := pos_get h e.1; have := h2 e (List.mem_cons_self ..); omega)) fun x hx => h2 x (List.mem_cons_of_mem _ hx)
theorem add_len : ∀ (b a : CM), (addC a b).length ≤ a.length + b.length
  | [], a => Nat.le_refl _
  | e :: b, a => by
    have h := add_len b (putC a e.1 (getD0 a e.1 + e.2))
    have h2 := put_len a e.1 (getD0 a e.1 + e.2)
    show (addC (putC a e.1 (getD0 a e.1 + e.2)) b).length ≤ _
    rw [List.length_cons]
    split at h2 <;> omega
theorem add_keys : ∀ (b a : CM) (n : Str), n ∈ keysC (addC a b) → n ∈ keysC a ∨ n ∈ keysC b
  | [], _, _, h => .inl h
  | e :: b, a, n, h => by
    rcases add_keys b (putC a e.1 (getD0 a e.1 + e.2)) n h with h | h
    · rw [keys_put] at h
      split at h
      · exact .inl h
      · rcases List.mem_append.mp h with h | h
        · exact .inl h
        · rw [List.mem_singleton.mp h]
          exact .inr (List.mem_cons_self ..)
    · exact .inr (List.mem_cons_of_mem _ h)
/-! ### a dict that an expression has just made, walked while it is not written -/
def tFrz (te : TE) : TE := fun σ H Q => te σ H fun x H1 => ∃ (d : Addr) (u : HO), x = .ref d ∧ H1 d = some u ∧ Mut (some u) ∧ ∀ od, Q x (upd H1 d (.frz od u))
theorem pe_frz {X : Cx} {e : Expr} {te : TE} (h : PE X e te) : PE X e (tFrz te) := by
  refine ⟨fun pins s σ H Q I hw => ?_⟩
  refine thn (h.run pins s σ H _ I hw) fun v s1 ⟨x, H1, I1, r, d, u, ex, hd, mu, q⟩ => ?_
  obtain ⟨od, I2⟩ := I1.lock hd mu
  exact ⟨x, _, I2, r, q od⟩
end DK

set_option Elab.async false
set_option linter.all false
set_option maxRecDepth 100000
set_option maxHeartbeats 4000000
namespace DK
open PySem PySem.Spec PyProof.Rows L2
/-! ### bounds that a coming, a pouring and a cut keep -/
structure Bn (room : Int) (c : CM) (gone total : Int) (t : CM) : Prop where
  nd : (keysC c).Nodup
  ndt : (keysC t).Nodup
  pos : posC c
  post : posC t
  g0 : 0 ≤ gone
  tot : sumC t = total
  sm : sumC c + (room + 1) * gone ≤ total
  lo : ∀ n, getD0 c n ≤ getD0 t n
  hi : ∀ n, getD0 t n ≤ getD0 c n + gone
theorem bn_start (room : Int) : Bn room [] 0 0 [] := ⟨List.nodup_nil, List.nodup_nil, (fun _ h => nomatch h), (fun _ h => nomatch h), Int.le_refl _, rfl, by show (0 : Int) + (room + 1) * 0 ≤ 0; omega, fun _ => Int.le_refl _, fun _ => Int.le_refl _⟩
theorem sum_add : ∀ (b : CM) {a : CM}, (keysC a).Nodup → sumC (addC a b) = sumC a + sumC b
  | [], a, _ => by
    show sumC a = sumC a + sumC []
    show sumC a = sumC a + 0
    omega
  | e :: b, a, h => by
    have ih := sum_add b (a := putC a e.1 (getD0 a e.1 + e.2)) (put_nodup h)
    show sumC (addC (putC a e.1 (getD0 a e.1 + e.2)) b) = _
    rw [ih, sum_put h, sumC_cons]
    omega
theorem get_add {a b : CM} (nb : (keysC b).Nodup) (n : Str) : getD0 (addC a b) n = getD0 a n + getD0 b n := by
  have h := add_get b a n nb
  show (getC (addC a b) n).getD 0 = _
  rw [h]
  have e : getD0 b n = (getC b n).getD 0 := rfl
  rw [e]
  cases getC b n with
  | none =>
    show getD0 a n = getD0 a n + 0
    omega
  | some v => rfl
/-- two together, not yet cut -/
theorem bn_add {room g1 T1 g2 T2 : Int} {c1 t1 c2 t2 : CM} (A : Bn room c1 g1 T1 t1) (B : Bn room c2 g2 T2 t2) : Bn room (addC c1 c2) (g1 + g2) (T1 + T2) (addC t1 t2) := by
  refine ⟨add_nodup _ A.nd, add_nodup _ A.ndt, add_pos _ A.pos B.pos, add_pos _ A.post B.post, by have := A.g0; have := B.g0; omega, ?_, ?_, fun n => ?_, fun n => ?_⟩
  · rw [sum_add _ A.ndt, A.tot, B.tot]
  · rw [sum_add _ A.nd, Int.mul_add]
    have := A.sm
    have := B.sm
    omega
  · rw [get_add B.nd, get_add B.ndt]
    have := A.lo n
    have := B.lo n
    omega
  · rw [get_add B.nd, get_add B.ndt]
    have := A.hi n
    have := B.hi n
    omega
theorem bn_perm {room g T : Int} {c c' t : CM} (p : c'.Perm c) (B : Bn room c g T t) : Bn room c' g T t :=
  ⟨nodup_perm p B.nd, B.ndt, pos_perm p B.pos, B.post, B.g0, B.tot, by rw [sum_perm' p]; exact B.sm, fun n => by rw [getD0_perm B.nd p]; exact B.lo n, fun n => by rw [getD0_perm B.nd p]; exact B.hi n⟩
where
  sum_perm' {c c' : CM} (p : c'.Perm c) : sumC c' = sumC c := by
    have : ∀ {l m : List Int}, l.Perm m → l.sum = m.sum := by
      intro l m q
      induction q with
      | nil => rfl
      | cons x _ ih => rw [List.sum_cons, List.sum_cons, ih]
      | swap x y l =>
        simp only [List.sum_cons]
        omega
      | trans _ _ h1 h2 => exact h1.trans h2
    exact this (p.map _)
def minS (m : Int) (l : List Int) : Int := (l.map fun x => min x m).sum
theorem minS_cons (m x : Int) (l : List Int) : minS m (x :: l) = min x m + minS m l := by
  unfold minS
  rw [List.map_cons, List.sum_cons]
theorem minS_pos {m : Int} (hm : 0 ≤ m) : ∀ l : List Int, (∀ x ∈ l, 0 ≤ x) → 0 ≤ minS m l
  | [], _ => Int.le_refl _
  | x :: l, h => by
    rw [minS_cons]
    have := minS_pos hm l fun y hy => h y (List.mem_cons_of_mem _ hy)
    have := h x (List.mem_cons_self ..)
    omega
theorem minS_ge {m : Int} (hm : 0 ≤ m) : ∀ (l : List Int) (k : Nat), k ≤ l.length → (∀ i x, i < k → l[i]? = some x → m ≤ x) → (∀ x ∈ l, 0 ≤ x) → (k : Int) * m ≤ minS m l
  | l, 0, _, _, h => by
    have := minS_pos hm l h
    simp only [Int.natCast_zero, Int.zero_mul]
    exact this
  | [], k + 1, hk, _, _ => by simp at hk
  | x :: l, k + 1, hk, h1, h => by
    rw [minS_cons]
    have ih := minS_ge hm l k (by simp at hk; omega) (fun i y hi hy => h1 (i + 1) y (by omega) (by rw [List.getElem?_cons_succ]; exact hy)) fun y hy => h y (List.mem_cons_of_mem _ hy)
    have hx := h1 0 x (by omega) rfl
    have e : ((k + 1 : Nat) : Int) * m = (k : Int) * m + m := by
      rw [Int.natCast_add, Int.add_mul]
      omega
    rw [e]
    omega
theorem minS_perm {m : Int} {a b : List Int} (p : a.Perm b) : minS m a = minS m b := by
  unfold minS
  have q := p.map fun x => min x m
  generalize a.map (fun x => min x m) = l at q
  generalize b.map (fun x => min x m) = l' at q
  induction q with
  | nil => rfl
  | cons x _ ih => rw [List.sum_cons, List.sum_cons, ih]
  | swap x y l =>
    simp only [List.sum_cons]
    omega
  | trans _ _ h1 h2 => exact h1.trans h2
theorem lowered_minS (m : Int) : ∀ c : CM, sumC (lowered c m) + minS m (valsC c) = sumC c
  | [] => rfl
  | e :: c => by
    have ih := lowered_minS m c
    show sumC (lowered (e :: c) m) + minS m (e.2 :: valsC c) = _
    rw [minS_cons, lowered_cons, sumC_cons]
    split
    · rw [sumC_cons]
      show e.2 - m + _ + _ = _
      omega
    · omega
/-- each of one more than the drawers loses the cut -/
theorem cut_sum {room : Int} {c : CM} (h0 : 0 ≤ room) (hp : posC c) : sumC (lowered c (cutAt room c)) + (room + 1) * cutAt room c ≤ sumC c := by
  have m0 := cut_pos h0 hp
  have e := lowered_minS (cutAt room c) c
  by_cases h : room < (c.length : Int)
  · have hm := cut_at h0 h
    generalize cutAt room c = m at hm m0 e ⊢
    have hlen := falls_len c
    obtain ⟨hr, er⟩ := List.getElem?_eq_some_iff.mp hm
    have k := minS_ge m0 (falls (valsC c)) (room.toNat + 1) (by omega) (fun i x hi hx => by
      obtain ⟨hj, ej⟩ := List.getElem?_eq_some_iff.mp hx
      by_cases hir : i = room.toNat
      · subst hir
        rw [er] at ej
        omega
      · have := of_decide_eq_true (List.pairwise_iff_getElem.mp (falls_pw (valsC c)) i room.toNat hj hr (by omega))
        rw [er, ej] at this
        exact this) (fun x hx => by
      obtain ⟨y, hy, rfl⟩ := List.mem_map.mp ((falls_perm _).mem_iff.mp hx)
      have := hp y hy
      omega)
    rw [minS_perm (falls_perm (valsC c))] at k
    have er2 : ((room.toNat + 1 : Nat) : Int) = room + 1 := by omega
    rw [er2] at k
    omega
  · rw [cut_few h, lowered_zero hp]
    omega
theorem bn_cut {room g T : Int} {c t : CM} (h0 : 0 ≤ room) (B : Bn room c g T t) : Bn room (lowered c (cutAt room c)) (g + cutAt room c) T t := by
  have m0 := cut_pos h0 B.pos
  have cs := cut_sum h0 B.pos
  refine ⟨lowered_nodup B.nd, B.ndt, pos_lowered, B.post, by have := B.g0; omega, B.tot, ?_, fun n => ?_, fun n => ?_⟩
  · have := B.sm
    rw [Int.mul_add]
    omega
  · rw [get_lowered B.nd B.pos m0]
    have := B.lo n
    have := pos_get B.post n
    split <;> omega
  · rw [get_lowered B.nd B.pos m0]
    have := B.hi n
    split <;> omega
theorem bn_less {room room' g T : Int} {c t : CM} (h : room' ≤ room) (B : Bn room c g T t) : Bn room' c g T t := by
  refine ⟨B.nd, B.ndt, B.pos, B.post, B.g0, B.tot, ?_, B.lo, B.hi⟩
  have h1 : (room' + 1) * g ≤ (room + 1) * g := Int.mul_le_mul_of_nonneg_right (by omega) B.g0
  have := B.sm
  omega
theorem bn_come {room gone total w : Int} {c t : CM} {n : Str} (B : Bn room c gone total t) (hl : (c.length : Int) ≤ room) (hw : 1 ≤ w) : Bn room (come room c n w).1 (gone + (come room c n w).2) (total + w) (putC t n (getD0 t n + w)) := by
  have t0 := pos_get B.post n
  have c0 := pos_get B.pos n
  have st : sumC (putC t n (getD0 t n + w)) = total + w := by
    rw [sum_put B.ndt, B.tot]
    omega
  have sm := B.sm
  have g0 := B.g0
  have pc := pos_come (room := room) (n := n) B.pos (show 0 < w by omega)
  by_cases h : hasC c n = false ∧ (c.length : Int) = room
  · obtain ⟨l1, l2⟩ := minL_le (valsC c) w
    have m0 : 0 ≤ minL w (valsC c) := by
      rcases minL_mem (valsC c) w with e | e
      · omega
      · obtain ⟨z, hz, ez⟩ := List.mem_map.mp e
        have := B.pos z hz
        omega
    have ec : come room c n w = (if 0 < w - minL w (valsC c) then putC (lowered c (minL w (valsC c))) n (getD0 (lowered c (minL w (valsC c))) n + (w - minL w (valsC c))) else lowered c (minL w (valsC c)), minL w (valsC c)) := by
      unfold come
      rw [if_pos h]
    rw [ec] at pc ⊢
    dsimp only at pc ⊢
    have hk := no_key h.1
    have s1 := sum_lowered (m := minL w (valsC c)) c fun e he => l2 e.2 (List.mem_map_of_mem he)
    rw [h.2] at s1
    generalize minL w (valsC c) = mm at l1 l2 m0 s1 pc ⊢
    have e0 : getD0 (lowered c mm) n = 0 := by
      unfold getD0
      rw [get_none fun z => hk ((lowered_keys c mm).subset z)]
      rfl
    have ecn : getD0 c n = 0 := by
      unfold getD0
      rw [get_none hk]
      rfl
    have e1 : (room + 1) * (gone + mm) = (room + 1) * gone + room * mm + mm := by
      rw [Int.mul_add, Int.add_mul room 1 mm]
      omega
    have hin := B.hi n
    refine ⟨?_, put_nodup B.ndt, pc, pos_put B.post (by omega), by omega, st, ?_, fun m => ?_, fun m => ?_⟩
    · split
      · exact put_nodup (lowered_nodup B.nd)
      · exact lowered_nodup B.nd
    · rw [e1]
      split
      · rw [sum_put (lowered_nodup B.nd), s1, e0]
        omega
      · rw [s1]
        omega
    · have gl := get_lowered B.nd B.pos m0 m
      have lo := B.lo m
      have pm := pos_get B.pos m
      by_cases hmn : m = n
      · subst hmn
        split
        · rw [getD0_put, getD0_put, e0, if_pos rfl, if_pos rfl]
          omega
        · rw [getD0_put, e0, if_pos rfl]
          omega
      · split
        · rw [getD0_put, getD0_put, if_neg hmn, if_neg hmn, gl]
          split <;> omega
        · rw [getD0_put, if_neg hmn, gl]
          split <;> omega
    · have gl := get_lowered B.nd B.pos m0 m
      have hi := B.hi m
      have pm := pos_get B.pos m
      by_cases hmn : m = n
      · subst hmn
        split
        · rw [getD0_put, getD0_put, e0, if_pos rfl, if_pos rfl]
          omega
        · rw [getD0_put, e0, if_pos rfl]
          omega
      · split
        · rw [getD0_put, getD0_put, if_neg hmn, if_neg hmn, gl]
          split <;> omega
        · rw [getD0_put, if_neg hmn, gl]
          split <;> omega
  · have ec : come room c n w = (putC c n (getD0 c n + w), 0) := by
      unfold come
      rw [if_neg h]
    rw [ec] at pc ⊢
    dsimp only at pc ⊢
    refine ⟨put_nodup B.nd, put_nodup B.ndt, pc, pos_put B.post (by omega), by omega, st, ?_, fun m => ?_, fun m => ?_⟩
    · rw [sum_put B.nd, show gone + 0 = gone by omega]
      omega
    · rw [getD0_put, getD0_put]
      have := B.lo m
      have := B.lo n
      split <;> omega
    · rw [getD0_put, getD0_put]
      have := B.hi m
      have := B.hi n
      split <;> omega
theorem bn_sum_pos {c : CM} (h : posC c) : 0 ≤ sumC c := by
  induction c with
  | nil => exact Int.le_refl _
  | cons e c ih =>
    rw [sumC_cons]
    have := ih fun x hx => h x (List.mem_cons_of_mem _ hx)
    have := h e (List.mem_cons_self ..)
    omega
/-- a heavy name may be shown -/
theorem bn_heavy {room gone total : Int} {c t : CM} (B : Bn room c gone total t) {n : Str} (hr : 1 ≤ room) (h : total < getD0 t n * (room + 1)) : n ∈ keysC c ∧ total < (getD0 c n + gone) * (room + 1) := by
  have h2 : getD0 t n * (room + 1) ≤ (getD0 c n + gone) * (room + 1) := Int.mul_le_mul_of_nonneg_right (B.hi n) (by omega)
  refine ⟨Classical.byContradiction fun z => ?_, by omega⟩
  have e0 : getD0 c n = 0 := by
    unfold getD0
    rw [get_none z]
    rfl
  rw [e0, Int.zero_add, Int.mul_comm gone] at h2
  have := B.sm
  have := bn_sum_pos B.pos
  omega
end DK

set_option Elab.async false
set_option linter.all false
set_option maxRecDepth 100000
set_option maxHeartbeats 4000000
namespace DK
open PySem PySem.Spec PyProof.Rows L2
/-! ### the weights of names in a list of comings -/
def wsum (pl : CM) (n : Str) : Int := ((pl.filter fun e => decide (e.1 = n)).map (·.2)).sum
def tally (ks : List Str) (pl : CM) : CM := ks.map fun n => (n, wsum pl n)
theorem wsum_nil (n : Str) : wsum [] n = 0 := rfl
theorem wsum_app (a b : CM) (n : Str) : wsum (a ++ b) n = wsum a n + wsum b n := by
  unfold wsum
  rw [List.filter_append, List.map_append, List.sum_append]
theorem wsum_one (e : Str × Int) (n : Str) : wsum [e] n = if e.1 = n then e.2 else 0 := by
  unfold wsum
  by_cases h : e.1 = n
  · simp [h]
  · simp [h]
theorem wsum_snoc (pl : CM) (e : Str × Int) (n : Str) : wsum (pl ++ [e]) n = if e.1 = n then wsum pl n + e.2 else wsum pl n := by
  rw [wsum_app, wsum_one]
  split <;> omega
theorem tally_keys (ks : List Str) (pl : CM) : keysC (tally ks pl) = ks := by
  unfold keysC tally
  rw [List.map_map]
  exact List.map_id' ks
theorem tally_len (ks : List Str) (pl : CM) : (tally ks pl).length = ks.length := by
  unfold tally
  rw [List.length_map]
theorem tally_has (ks : List Str) (pl : CM) (n : Str) : hasC (tally ks pl) n = true ↔ n ∈ ks := by
  rw [has_iff, tally_keys]
theorem tally_get {ks : List Str} {pl : CM} {n : Str} (h : n ∈ ks) : getC (tally ks pl) n = some (wsum pl n) := by
  induction ks with
  | nil => cases h
  | cons k ks ih =>
    unfold tally
    rw [List.map_cons]
    by_cases e : k = n
    · rw [← e]
      exact getC_cons_eq rfl
    · rw [getC_cons_ne e]
      rcases List.mem_cons.mp h with h | h
      · exact absurd h.symm e
      · exact ih h
theorem tally_put {ks : List Str} {pl : CM} {e : Str × Int} (h : e.1 ∈ ks) : putC (tally ks pl) e.1 (wsum pl e.1 + e.2) = tally ks (pl ++ [e]) := by
  unfold putC
  rw [if_pos ((tally_has _ _ _).mpr h)]
  unfold tally
  rw [List.map_map]
  refine List.map_congr_left fun n _ => ?_
  simp only [Function.comp]
  rw [wsum_snoc]
  by_cases z : n = e.1
  · rw [if_pos z, if_pos z.symm, z]
  · rw [if_neg z, if_neg fun y => z y.symm]
theorem tally_out {ks : List Str} {pl : CM} {e : Str × Int} (h : e.1 ∉ ks) : tally ks (pl ++ [e]) = tally ks pl := by
  unfold tally
  refine List.map_congr_left fun n hn => ?_
  rw [wsum_snoc, if_neg fun y => h (by rw [y]; exact hn)]
theorem tally_new {ks : List Str} {n : Str} (h : n ∉ ks) : putC (tally ks []) n 0 = tally (ks ++ [n]) [] := by
  unfold putC
  rw [if_neg fun z => h ((tally_has _ _ _).mp z)]
  unfold tally
  rw [List.map_append]
  rfl
theorem keys_sort (c : CM) : keysC (sortC c) = sortS (keysC c) := by
  refine sortS_eq (perm_keys (sortC_perm c)) ?_
  unfold keysC
  exact List.pairwise_map.mpr (sortC_asc c)
/-! ### pairs that stand in the heap as tuples -/
def VsAt (H : Hp) (ts : List Addr) (xs : List (V × V)) : Prop := Paired (fun (t : Addr) (e : V × V) => H t = some (.tup [e.1, e.2])) ts xs
def vpr (c : CM) : List (V × V) := c.map fun e => (.str e.1, .int e.2)
theorem vs_prs {H : Hp} {ts : List Addr} {c : CM} (h : PrsAt H ts c) : VsAt H ts (vpr c) := by
  unfold PrsAt at h
  unfold VsAt vpr
  induction h with
  | nil => exact .nil
  | cons r _ ih => exact .cons r ih
theorem vs_ex {H H' : Hp} {ts : List Addr} {xs : List (V × V)} (h : VsAt H ts xs) (e : Ex H H') : VsAt H' ts xs := by
  unfold VsAt at h ⊢
  induction h with
  | nil => exact .nil
  | cons r _ ih => exact .cons (e _ _ r) ih
theorem vs_app {H : Hp} {ts us : List Addr} {xs ys : List (V × V)} (h : VsAt H ts xs) (h2 : VsAt H us ys) : VsAt H (ts ++ us) (xs ++ ys) := by
  unfold VsAt at h h2 ⊢
  induction h with
  | nil => exact h2
  | cons r _ ih => exact .cons r ih
theorem prs_snoc {H : Hp} {ts : List Addr} {c : CM} {t : Addr} {e : Str × Int} (h : PrsAt H ts c) (h2 : H t = some (.tup [.str e.1, .int e.2])) : PrsAt H (ts ++ [t]) (c ++ [e]) := by
  unfold PrsAt at h ⊢
  induction h with
  | nil => exact .cons h2 .nil
  | cons r _ ih => exact .cons r ih
theorem prs_drop {H : Hp} {ts : List Addr} {c : CM} (h : PrsAt H ts c) : ∀ k : Nat, PrsAt H (ts.drop k) (c.drop k) := by
  unfold PrsAt at h ⊢
  induction h with
  | nil =>
    intro k
    rw [List.drop_nil, List.drop_nil]
    exact .nil
  | cons r t ih =>
    intro k
    cases k with
    | zero => exact .cons r t
    | succ k => exact ih k
theorem prs_len {H : Hp} {ts : List Addr} {c : CM} (h : PrsAt H ts c) : ts.length = c.length := by
  unfold PrsAt at h
  exact h.length
/-- what is written is none of the pairs -/
theorem prs_off {H H' : Hp} {ts : List Addr} {c : CM} {l : List Addr} (h : PrsAt H ts c) (o : Off l H H') (hl : ∀ b ∈ l, ∀ xs, H b ≠ some (.tup xs)) : PrsAt H' ts c := by
  unfold PrsAt at h ⊢
  induction h with
  | nil => exact .nil
  | cons r _ ih => exact .cons (o _ _ (fun z => hl _ z _ r) r) ih
theorem cut_fromV (xs : List V) (k : Nat) (h : k ≤ xs.length) : cutV xs (some (k : Int)) none = xs.drop k := by
  unfold cutV
  rw [HT.sIx_none, HT.sIx_nat, Nat.min_eq_left h, List.take_of_length_le]
  rw [List.length_drop]
  exact Nat.le_refl _
end DK

set_option Elab.async false
set_option linter.all false
set_option maxRecDepth 100000
set_option maxHeartbeats 4000000
namespace DK
open PySem PySem.Spec PyProof.Rows L2
/-! ### names of more than their share -/
def trueT (pl : CM) : CM := pl.foldl (fun t e => putC t e.1 (getD0 t e.1 + e.2)) []
def runC (r : Int) (pl : CM) : CM × Int × Int := pl.foldl (fun s e => ((come r s.1 e.1 e.2).1, s.2.1 + (come r s.1 e.1 e.2).2, s.2.2 + e.2)) ([], 0, 0)
theorem true_snoc (pl : CM) (e : Str × Int) : trueT (pl ++ [e]) = putC (trueT pl) e.1 (getD0 (trueT pl) e.1 + e.2) := by
  unfold trueT
  rw [List.foldl_append]
  rfl
theorem run_snoc (r : Int) (pl : CM) (e : Str × Int) : runC r (pl ++ [e]) = ((come r (runC r pl).1 e.1 e.2).1, (runC r pl).2.1 + (come r (runC r pl).1 e.1 e.2).2, (runC r pl).2.2 + e.2) := by
  unfold runC
  rw [List.foldl_append]
  rfl
theorem run_from {r : Int} : ∀ (pl : CM) (s : CM × Int × Int) (t : CM), Bnd r s.1 s.2.1 s.2.2 t → (∀ e ∈ pl, isWt e.2 = true) →
    Bnd r (pl.foldl (fun s e => ((come r s.1 e.1 e.2).1, s.2.1 + (come r s.1 e.1 e.2).2, s.2.2 + e.2)) s).1 (pl.foldl (fun s e => ((come r s.1 e.1 e.2).1, s.2.1 + (come r s.1 e.1 e.2).2, s.2.2 + e.2)) s).2.1
      (pl.foldl (fun s e => ((come r s.1 e.1 e.2).1, s.2.1 + (come r s.1 e.1 e.2).2, s.2.2 + e.2)) s).2.2 (pl.foldl (fun t e => putC t e.1 (getD0 t e.1 + e.2)) t)
  | [], _, _, B, _ => B
  | e :: pl, s, t, B, h => run_from pl _ _ (bnd_come (n := e.1) B (of_decide_eq_true (h e (List.mem_cons_self ..))).1) fun x hx => h x (List.mem_cons_of_mem _ hx)
theorem run_bnd {r : Int} (h1 : 1 ≤ r) {pl : CM} (h : ∀ e ∈ pl, isWt e.2 = true) : Bnd r (runC r pl).1 (runC r pl).2.1 (runC r pl).2.2 (trueT pl) := run_from pl ([], 0, 0) [] (bnd_start r h1) h
theorem wsum_cons (e : Str × Int) (pl : CM) (n : Str) : wsum (e :: pl) n = (if e.1 = n then e.2 else 0) + wsum pl n := by
  have h := wsum_app [e] pl n
  rw [wsum_one] at h
  exact h
theorem true_from (n : Str) : ∀ (pl t : CM), getD0 (pl.foldl (fun t e => putC t e.1 (getD0 t e.1 + e.2)) t) n = getD0 t n + wsum pl n
  | [], t => by rw [wsum_nil, Int.add_zero]; rfl
  | e :: pl, t => by
    rw [List.foldl_cons, true_from n pl, getD0_put, wsum_cons]
    by_cases h : e.1 = n
    · rw [if_pos h.symm, if_pos h, h]
      omega
    · rw [if_neg fun z => h z.symm, if_neg h]
      omega
theorem true_get (pl : CM) (n : Str) : getD0 (trueT pl) n = wsum pl n := by
  unfold trueT
  rw [true_from]
  exact Int.zero_add _
theorem run_tot_from (r : Int) : ∀ (pl : CM) (s : CM × Int × Int), (pl.foldl (fun s e => ((come r s.1 e.1 e.2).1, s.2.1 + (come r s.1 e.1 e.2).2, s.2.2 + e.2)) s).2.2 = s.2.2 + sumC pl
  | [], s => (Int.add_zero _).symm
  | e :: pl, s => by
    rw [List.foldl_cons, run_tot_from r pl, sumC_cons]
    dsimp only
    omega
theorem run_tot (r : Int) (pl : CM) : (runC r pl).2.2 = sumC pl := by
  unfold runC
  rw [run_tot_from]
  exact Int.zero_add _
theorem sum_nonneg {c : CM} (h : posC c) : 0 ≤ sumC c := by
  induction c with
  | nil => exact Int.le_refl _
  | cons e c ih =>
    rw [sumC_cons]
    have := h e (List.mem_cons_self ..)
    have := ih fun x hx => h x (List.mem_cons_of_mem _ hx)
    omega
structure Heavy (r : Int) (pl : CM) (L : List Str) : Prop where
  srt : L.Pairwise fun x y => sle x y = true
  nd : L.Nodup
  mem : ∀ n, n ∈ L ↔ sumC pl < wsum pl n * (r + 1)
theorem heavy_uniq {r : Int} {pl : CM} {L L' : List Str} (h : Heavy r pl L) (h' : Heavy r pl L') : L = L' :=
  List.Perm.eq_of_pairwise (fun a b _ _ h1 h2 => sle_anti h1 h2) h.srt h'.srt ((List.perm_ext_iff_of_nodup h.nd h'.nd).mpr fun n => by rw [h.mem, h'.mem])
theorem heavy_none {r : Int} {pl : CM} {L : List Str} (h : Heavy r pl L) (hn : ∀ n, ¬ sumC pl < wsum pl n * (r + 1)) : L = [] := by
  cases L with
  | nil => rfl
  | cons n L => exact absurd ((h.mem n).mp (List.mem_cons_self ..)) (hn n)
theorem heavy_one {r : Int} {pl : CM} {L : List Str} {x : Str} (h : Heavy r pl L) (hn : ∀ n, sumC pl < wsum pl n * (r + 1) ↔ n = x) : L = [x] :=
  heavy_uniq h ⟨List.pairwise_singleton _ _, List.pairwise_singleton _ _, fun n => by rw [List.mem_singleton, hn]⟩
theorem heavy_desk {r : Int} (h1 : 1 ≤ r) {pl : CM} (h : ∀ e ∈ pl, isWt e.2 = true) : Heavy r pl ((keysC (sortC (runC r pl).1)).filter fun n => decide ((runC r pl).2.2 < wsum pl n * (r + 1))) := by
  have B := run_bnd h1 h
  refine ⟨?_, (sortC_nodup B.nd).filter _, fun n => ?_⟩
  · rw [keys_sort]
    exact (sortS_asc _).filter _
  · rw [List.mem_filter, run_tot]
    refine ⟨fun h => of_decide_eq_true h.2, fun z => ⟨?_, decide_eq_true z⟩⟩
    have := heavy_in B (n := n) h1 (by rw [run_tot, true_get]; exact z)
    exact (perm_keys (sortC_perm _)).mem_iff.mpr this.1
theorem heavy_true {r : Int} (h1 : 1 ≤ r) {pl : CM} (h : ∀ e ∈ pl, isWt e.2 = true) : Heavy r pl ((sortS (keysC (trueT pl))).filter fun n => decide (sumC (trueT pl) < getD0 (trueT pl) n * (r + 1))) := by
  have B := run_bnd h1 h
  have e : sumC (trueT pl) = sumC pl := B.tot.trans (run_tot r pl)
  refine ⟨(sortS_asc _).filter _, ((sortS_perm _).nodup_iff.mpr B.ndt).filter _, fun n => ?_⟩
  rw [List.mem_filter, e, true_get]
  refine ⟨fun h => of_decide_eq_true h.2, fun z => ⟨?_, decide_eq_true z⟩⟩
  refine (sortS_perm _).mem_iff.mpr (pos_has ?_)
  rw [true_get]
  have h0 := sum_nonneg B.post
  rw [e] at h0
  refine Classical.byContradiction fun hh => ?_
  have h2 : wsum pl n ≤ 0 := by omega
  have := Int.mul_nonpos_of_nonpos_of_nonneg h2 (show (0 : Int) ≤ r + 1 by omega)
  omega
/-- names of one weight each -/
theorem wsum_even (W : Int) (n : Str) : ∀ ns : List Str, ns.Nodup → wsum (ns.map fun x => (x, W)) n = if n ∈ ns then W else 0
  | [], _ => rfl
  | x :: ns, nd => by
    obtain ⟨n1, n2⟩ := List.nodup_cons.mp nd
    rw [List.map_cons, wsum_cons, wsum_even W n ns n2]
    by_cases h : x = n
    · subst h
      rw [if_pos rfl, if_neg n1, if_pos (List.mem_cons_self ..)]
      omega
    · rw [if_neg h, Int.zero_add]
      by_cases h2 : n ∈ ns
      · rw [if_pos h2, if_pos (List.mem_cons_of_mem _ h2)]
      · rw [if_neg h2, if_neg fun z => ?_]
        rcases List.mem_cons.mp z with z | z
        · exact h z.symm
        · exact h2 z
theorem sum_even (W : Int) : ∀ ns : List Str, sumC (ns.map fun x => (x, W)) = ns.length * W
  | [] => by rw [List.length_nil]; show (0 : Int) = _; rw [show ((0 : Nat) : Int) = 0 from rfl, Int.zero_mul]
  | x :: ns => by
    rw [List.map_cons, sumC_cons, sum_even W ns, List.length_cons, Int.natCast_succ, Int.add_mul, Int.one_mul, Int.add_comm]
theorem sum_app (a b : CM) : sumC (a ++ b) = sumC a + sumC b := by
  unfold sumC valsC
  rw [List.map_append, List.sum_append]
end DK

set_option Elab.async false
set_option linter.all false
set_option maxRecDepth 100000
set_option maxHeartbeats 4000000
namespace DK
open PySem PySem.Spec PyProof.Rows L2
theorem true_len_from : ∀ (pl t : CM), (pl.foldl (fun t e => putC t e.1 (getD0 t e.1 + e.2)) t).length ≤ t.length + pl.length
  | [], t => Nat.le_refl _
  | e :: pl, t => by
    have h := true_len_from pl (putC t e.1 (getD0 t e.1 + e.2))
    have h2 := put_len t e.1 (getD0 t e.1 + e.2)
    rw [List.foldl_cons, List.length_cons]
    split at h2 <;> omega
theorem true_len (pl : CM) : (trueT pl).length ≤ pl.length := by
  have h := true_len_from pl []
  rw [List.length_nil, Nat.zero_add] at h
  exact h
theorem true_keys_from {n : Str} : ∀ (pl t : CM), n ∈ keysC (pl.foldl (fun t e => putC t e.1 (getD0 t e.1 + e.2)) t) → n ∈ keysC t ∨ ∃ e ∈ pl, e.1 = n
  | [], t, h => .inl h
  | e :: pl, t, h => by
    rw [List.foldl_cons] at h
    rcases true_keys_from pl _ h with h | ⟨x, hx, h⟩
    · rw [keys_put] at h
      split at h
      · exact .inl h
      · rcases List.mem_append.mp h with h | h
        · exact .inl h
        · exact .inr ⟨e, List.mem_cons_self .., (List.mem_singleton.mp h).symm⟩
    · exact .inr ⟨x, List.mem_cons_of_mem _ hx, h⟩
theorem true_keys {pl : CM} {n : Str} (h : n ∈ keysC (trueT pl)) : ∃ e ∈ pl, e.1 = n := by
  rcases true_keys_from pl [] h with h | h
  · cases h
  · exact h
theorem cut_toV (xs : List V) (k : Nat) (h : k ≤ xs.length) : cutV xs none (some (k : Int)) = xs.take k := by
  unfold cutV
  rw [HT.sIx_none, HT.sIx_nat, Nat.min_eq_left h]
  rfl
theorem even_none {W r : Int} {ns : List Str} {L : List Str} (nd : ns.Nodup) (hW : 0 ≤ W) (hr : r + 1 = ns.length) (h : Heavy r (ns.map fun x => (x, W)) L) : L = [] := by
  refine heavy_none h fun n => ?_
  rw [sum_even, wsum_even W n ns nd, hr]
  have h0 : (0 : Int) ≤ ns.length * W := Int.mul_nonneg (by omega) hW
  split
  · rw [Int.mul_comm]
    omega
  · rw [Int.zero_mul]
    omega
theorem even_one {W r : Int} {ns : List Str} {L : List Str} {x : Str} (nd : ns.Nodup) (hx : x ∈ ns) (hW : 0 ≤ W) (hr : r + 1 = ns.length) (h1 : 1 ≤ r) (h : Heavy r ((ns.map fun x => (x, W)) ++ [(x, 1)]) L) : L = [x] := by
  refine heavy_one h fun n => ?_
  rw [sum_app, sum_even, wsum_app, wsum_even W n ns nd, wsum_one, ← hr]
  have h0 : (0 : Int) ≤ (r + 1) * W := Int.mul_nonneg (by omega) hW
  have e1 : sumC [((x, 1) : Str × Int)] = 1 := rfl
  rw [e1]
  by_cases e : x = n
  · subst e
    rw [if_pos hx, if_pos rfl]
    have e : (W + 1) * (r + 1) = (r + 1) * W + (r + 1) := by rw [Int.add_mul, Int.one_mul, Int.mul_comm W]
    refine ⟨fun _ => rfl, fun _ => ?_⟩
    dsimp only
    rw [e]
    omega
  · rw [if_neg (c := (x, (1 : Int)).1 = n) e, Int.add_zero]
    refine ⟨fun h => ?_, fun h => absurd h.symm e⟩
    split at h
    · rw [Int.mul_comm W] at h
      omega
    · rw [Int.zero_mul] at h
      omega
theorem just_wsum (a b : Str) (x y : Int) (n : Str) : wsum [(a, x), (b, y)] n = (if a = n then x else 0) + (if b = n then y else 0) := by
  rw [wsum_cons, wsum_one]
theorem just_sum (a b : Str) (x y : Int) : sumC [(a, x), (b, y)] = x + y := by
  rw [sumC_cons]
  show x + (y + 0) = x + y
  omega
theorem just_heavy {u r : Int} {a b : Str} {L : List Str} (hab : a ≠ b) (hu : 1 ≤ u) (h1 : 1 ≤ r) (h : Heavy r [(a, u), (b, u * r)] L) : L = if r = 1 then [] else [b] := by
  have e : u * (r + 1) = u * r + u := by rw [Int.mul_add, Int.mul_one]
  have e2 : u * r * (r + 1) = u * r * r + u * r := by rw [Int.mul_add, Int.mul_one]
  by_cases hr : r = 1
  · rw [if_pos hr]
    subst hr
    refine heavy_none h fun n => ?_
    rw [just_sum, just_wsum]
    by_cases z1 : a = n
    · rw [if_pos z1, if_neg (fun z => hab (z1.trans z.symm))]
      omega
    · rw [if_neg z1]
      by_cases z2 : b = n
      · rw [if_pos z2]
        omega
      · rw [if_neg z2]
        omega
  · rw [if_neg hr]
    have hur : u ≤ u * r := by
      have := Int.mul_le_mul_of_nonneg_left h1 (show 0 ≤ u by omega)
      rw [Int.mul_one] at this
      exact this
    have hur2 : u * r * 2 ≤ u * r * r := Int.mul_le_mul_of_nonneg_left (show 2 ≤ r by omega) (show 0 ≤ u * r by omega)
    refine heavy_one h fun n => ?_
    rw [just_sum, just_wsum]
    by_cases z1 : a = n
    · rw [if_pos z1, if_neg (fun z => hab (z1.trans z.symm)), Int.add_zero, e]
      refine ⟨fun h => by omega, fun h => absurd (z1.trans h) hab⟩
    · rw [if_neg z1, Int.zero_add]
      by_cases z2 : b = n
      · rw [if_pos z2, e2]
        refine ⟨fun _ => z2.symm, fun _ => by omega⟩
      · rw [if_neg z2, Int.zero_mul]
        refine ⟨fun h => by omega, fun h => absurd h.symm z2⟩
end DK

set_option Elab.async false
set_option linter.all false
set_option maxRecDepth 100000
set_option maxHeartbeats 4000000
namespace DK
open PySem PySem.Spec PyProof.Rows L2
/-! ### what came lately: pieces of comings -/
abbrev S3 := CM × Int × Int
def pourD (r : Int) (s u : S3) : S3 := (lowered (addC (sortC s.1) (sortC u.1)) (cutAt r (addC (sortC s.1) (sortC u.1))), s.2.1 + u.2.1 + cutAt r (addC (sortC s.1) (sortC u.1)), s.2.2 + u.2.2)
def pourL (r : Int) (s u : S3) : S3 := (lowered (addC s.1 u.1) (cutAt r (addC s.1 u.1)), s.2.1 + u.2.1 + cutAt r (addC s.1 u.1), s.2.2 + u.2.2)
def tellD (r : Int) (xs : List CM) : S3 := xs.foldl (fun s x => pourD r s (runC r x)) ([], 0, 0)
def tellL (r : Int) (xs : List CM) : S3 := xs.foldl (fun s x => pourL r s (runC r x)) ([], 0, 0)
theorem tellD_snoc (r : Int) (xs : List CM) (x : CM) : tellD r (xs ++ [x]) = pourD r (tellD r xs) (runC r x) := by
  unfold tellD
  rw [List.foldl_append]
  rfl
theorem tellL_snoc (r : Int) (xs : List CM) (x : CM) : tellL r (xs ++ [x]) = pourL r (tellL r xs) (runC r x) := by
  unfold tellL
  rw [List.foldl_append]
  rfl
/-- what a told state keeps -/
structure Wel (r : Int) (s : S3) : Prop where
  nd : (keysC s.1).Nodup
  pc : posC s.1
  ln : (s.1.length : Int) ≤ r
def okX (nm : List Str) (x : CM) : Prop := ∀ e ∈ x, e.1 ∈ nm ∧ isWt e.2 = true
theorem run_wel {r : Int} (h1 : 1 ≤ r) {pl : CM} (h : ∀ e ∈ pl, isWt e.2 = true) : Wel r (runC r pl) := ⟨(run_bnd h1 h).nd, (run_bnd h1 h).pos, (run_bnd h1 h).ln⟩
theorem run_keys_from {r : Int} {n : Str} : ∀ (pl : CM) (s : S3), n ∈ keysC (pl.foldl (fun s e => ((come r s.1 e.1 e.2).1, s.2.1 + (come r s.1 e.1 e.2).2, s.2.2 + e.2)) s).1 → n ∈ keysC s.1 ∨ ∃ e ∈ pl, e.1 = n
  | [], s, h => .inl h
  | e :: pl, s, h => by
    rw [List.foldl_cons] at h
    rcases run_keys_from pl _ h with h | ⟨x, hx, h⟩
    · have put : ∀ (c' : CM) (v : Int), n ∈ keysC (putC c' e.1 v) → n ∈ keysC c' ∨ n = e.1 := by
        intro c' v h
        rw [keys_put] at h
        split at h
        · exact .inl h
        · rcases List.mem_append.mp h with h | h
          · exact .inl h
          · exact .inr (List.mem_singleton.mp h)
      have h2 : n ∈ keysC s.1 ∨ n = e.1 := by
        dsimp only at h
        unfold come at h
        split at h
        · dsimp only at h
          split at h
          · rcases put _ _ h with h | h
            · exact .inl ((lowered_keys _ _).subset h)
            · exact .inr h
          · exact .inl ((lowered_keys _ _).subset h)
        · exact put _ _ h
      rcases h2 with h2 | h2
      · exact .inl h2
      · exact .inr ⟨e, List.mem_cons_self .., h2.symm⟩
    · exact .inr ⟨x, List.mem_cons_of_mem _ hx, h⟩
theorem run_keys {r : Int} {pl : CM} {n : Str} (h : n ∈ keysC (runC r pl).1) : ∃ e ∈ pl, e.1 = n := by
  rcases run_keys_from pl _ h with h | h
  · cases h
  · exact h
theorem pourL_wel {r : Int} (h1 : 1 ≤ r) {s u : S3} (A : Wel r s) (B : Wel r u) : Wel r (pourL r s u) := ⟨lowered_nodup (add_nodup _ A.nd), pos_lowered, cut_len (by omega)⟩
theorem tellL_wel {r : Int} (h1 : 1 ≤ r) {xs : List CM} (h : ∀ x ∈ xs, ∀ e ∈ x, isWt e.2 = true) : Wel r (tellL r xs) := by
  have go : ∀ (xs : List CM) (s : S3), Wel r s → (∀ x ∈ xs, ∀ e ∈ x, isWt e.2 = true) → Wel r (xs.foldl (fun s x => pourL r s (runC r x)) s) := by
    intro xs
    induction xs with
    | nil => exact fun s A _ => A
    | cons x xs ih => exact fun s A h => ih _ (pourL_wel h1 A (run_wel h1 (h x (List.mem_cons_self ..)))) fun y hy => h y (List.mem_cons_of_mem _ hy)
  exact go xs _ ⟨List.nodup_nil, (fun _ h => nomatch h), by show ((0 : Nat) : Int) ≤ r; omega⟩ h
theorem tellL_keys {r : Int} {xs : List CM} {n : Str} (h : n ∈ keysC (tellL r xs).1) : ∃ x ∈ xs, ∃ e ∈ x, e.1 = n := by
  have go : ∀ (xs : List CM) (s : S3), n ∈ keysC (xs.foldl (fun s x => pourL r s (runC r x)) s).1 → n ∈ keysC s.1 ∨ ∃ x ∈ xs, ∃ e ∈ x, e.1 = n := by
    intro xs
    induction xs with
    | nil => exact fun s h => .inl h
    | cons x xs ih =>
      intro s h
      rcases ih _ h with h | ⟨y, hy, h⟩
      · have h := (lowered_keys _ _).subset h
        rcases add_keys _ _ _ h with h | h
        · exact .inl h
        · exact .inr ⟨x, List.mem_cons_self .., run_keys h⟩
      · exact .inr ⟨y, List.mem_cons_of_mem _ hy, h⟩
  rcases go xs _ h with h | h
  · cases h
  · exact h
theorem tell_sim {r : Int} (h1 : 1 ≤ r) {xs : List CM} (h : ∀ x ∈ xs, ∀ e ∈ x, isWt e.2 = true) : (tellD r xs).1.Perm (tellL r xs).1 ∧ (tellD r xs).2 = (tellL r xs).2 := by
  have go : ∀ (xs : List CM) (s u : S3), s.1.Perm u.1 → s.2 = u.2 → Wel r u → (∀ x ∈ xs, ∀ e ∈ x, isWt e.2 = true) →
      (xs.foldl (fun s x => pourD r s (runC r x)) s).1.Perm (xs.foldl (fun s x => pourL r s (runC r x)) u).1 ∧ (xs.foldl (fun s x => pourD r s (runC r x)) s).2 = (xs.foldl (fun s x => pourL r s (runC r x)) u).2 := by
    intro xs
    induction xs with
    | nil => exact fun s u p e _ _ => ⟨p, e⟩
    | cons x xs ih =>
      intro s u p e A h
      have B := run_wel h1 (h x (List.mem_cons_self ..))
      have pa := add_perm A.nd B.nd ((sortC_perm s.1).trans p) (sortC_perm (runC r x).1)
      have ec := cut_perm (room := r) pa
      refine ih _ _ ?_ ?_ (pourL_wel h1 A B) fun y hy => h y (List.mem_cons_of_mem _ hy)
      · show (lowered _ _).Perm (lowered _ _)
        rw [ec]
        exact lowered_perm pa _
      · show (s.2.1 + _ + cutAt _ _, s.2.2 + _) = (u.2.1 + _ + cutAt _ _, u.2.2 + _)
        rw [ec, e]
  exact go xs _ _ (List.Perm.refl _) rfl ⟨List.nodup_nil, (fun _ h => nomatch h), by show ((0 : Nat) : Int) ≤ r; omega⟩ h
/-- the last of a list -/
def lastn {α : Type} (k : Nat) (xs : List α) : List α := xs.drop (xs.length - k)
theorem lastn_len {α : Type} (k : Nat) (xs : List α) : (lastn k xs).length ≤ k := by
  unfold lastn
  rw [List.length_drop]
  omega
theorem lastn_mem {α : Type} {k : Nat} {xs : List α} {x : α} (h : x ∈ lastn k xs) : x ∈ xs := List.mem_of_mem_drop h
theorem lastn_map {α β : Type} (f : α → β) (k : Nat) (xs : List α) : lastn k (xs.map f) = (lastn k xs).map f := by
  unfold lastn
  rw [List.length_map, List.map_drop]
theorem cut_last (xs : List V) (k : Nat) (h : 1 ≤ k) : cutV xs (some (-(k : Int))) none = lastn k xs := by
  unfold cutV lastn
  have e : HT.sIx xs.length 0 (some (-(k : Int))) = xs.length - k := by
    have h2 := HT.clip_eq (-(k : Int)) xs.length 0
    rw [if_pos (by omega)] at h2
    omega
  rw [HT.sIx_none, e, List.take_of_length_le]
  rw [List.length_drop]
  omega
/-- one coming more -/
def stepP (pc pn : Nat) (s : List CM × CM) (e : Str × Int) : List CM × CM := if s.2.length + 1 = pc then (lastn pn (s.1 ++ [s.2 ++ [e]]), []) else (s.1, s.2 ++ [e])
/-! ### footprints -/
def Disj (F G : List Addr) : Prop := ∀ a ∈ F, a ∉ G
theorem Disj.symm {F G : List Addr} (h : Disj F G) : Disj G F := fun a ha hb => h a hb ha
theorem disj_new {H : Hp} {F F' G : List Addr} (h : Disj F G) (hf : ∀ a ∈ F', a ∈ F ∨ H a = none) (hg : ∀ b ∈ G, H b ≠ none) : Disj F' G := fun a ha hb => by
  rcases hf a ha with z | z
  · exact h a z hb
  · exact hg a hb z
theorem disj_fresh {H : Hp} {F G : List Addr} (hf : ∀ a ∈ F, H a = none) (hg : ∀ b ∈ G, H b ≠ none) : Disj F G := fun a ha hb => hg a hb (hf a ha)
/-! ### the fields of a row of desks -/
def lfl (room piece pieces : Int) (fl lp : Addr) (came : Int) : List (Str × V) := [(("room" : Str), .int room), (("piece" : Str), .int piece), (("pieces" : Str), .int pieces), (("full" : Str), .ref fl), (("latest" : Str), .ref lp), (("came" : Str), .int came)]
section
variable {room piece pieces came : Int} {fl lp : Addr}
theorem lk : ((("piece" : Str) == "room") = false) ∧ ((("pieces" : Str) == "room") = false) ∧ ((("full" : Str) == "room") = false) ∧ ((("latest" : Str) == "room") = false) ∧ ((("came" : Str) == "room") = false) ∧
    ((("pieces" : Str) == "piece") = false) ∧ ((("full" : Str) == "piece") = false) ∧ ((("latest" : Str) == "piece") = false) ∧ ((("came" : Str) == "piece") = false) ∧
    ((("full" : Str) == "pieces") = false) ∧ ((("latest" : Str) == "pieces") = false) ∧ ((("came" : Str) == "pieces") = false) ∧ ((("latest" : Str) == "full") = false) ∧ ((("came" : Str) == "full") = false) ∧ ((("came" : Str) == "latest") = false) := by decide +kernel
theorem ls6 : ((("room" : Str) == "room") = true) ∧ ((("piece" : Str) == "piece") = true) ∧ ((("pieces" : Str) == "pieces") = true) ∧ ((("full" : Str) == "full") = true) ∧ ((("latest" : Str) == "latest") = true) ∧ ((("came" : Str) == "came") = true) := by decide +kernel
theorem lfl_room : (lfl room piece pieces fl lp came).lookup ("room" : Str) = some (.int room) := by
  simp only [lfl, List.lookup, ls6.1]
theorem lfl_piece : (lfl room piece pieces fl lp came).lookup ("piece" : Str) = some (.int piece) := by
  simp only [lfl, List.lookup, lk.1, ls6.2.1]
theorem lfl_pieces : (lfl room piece pieces fl lp came).lookup ("pieces" : Str) = some (.int pieces) := by
  simp only [lfl, List.lookup, lk.2.1, lk.2.2.2.2.2.1, ls6.2.2.1]
theorem lfl_full : (lfl room piece pieces fl lp came).lookup ("full" : Str) = some (.ref fl) := by
  simp only [lfl, List.lookup, lk.2.2.1, lk.2.2.2.2.2.2.1, lk.2.2.2.2.2.2.2.2.2.1, ls6.2.2.2.1]
theorem lfl_latest : (lfl room piece pieces fl lp came).lookup ("latest" : Str) = some (.ref lp) := by
  simp only [lfl, List.lookup, lk.2.2.2.1, lk.2.2.2.2.2.2.2.1, lk.2.2.2.2.2.2.2.2.2.2.1, lk.2.2.2.2.2.2.2.2.2.2.2.2.1, ls6.2.2.2.2.1]
theorem lfl_came : (lfl room piece pieces fl lp came).lookup ("came" : Str) = some (.int came) := by
  simp only [lfl, List.lookup, lk.2.2.2.2.1, lk.2.2.2.2.2.2.2.2.1, lk.2.2.2.2.2.2.2.2.2.2.2.1, lk.2.2.2.2.2.2.2.2.2.2.2.2.2.1, lk.2.2.2.2.2.2.2.2.2.2.2.2.2.2, ls6.2.2.2.2.2]
theorem lfl_no {m : Str} (h : (m == "room") = false ∧ (m == "piece") = false ∧ (m == "pieces") = false ∧ (m == "full") = false ∧ (m == "latest") = false ∧ (m == "came") = false) : (lfl room piece pieces fl lp came).lookup m = none := by
  simp only [lfl, List.lookup, h.1, h.2.1, h.2.2.1, h.2.2.2.1, h.2.2.2.2.1, h.2.2.2.2.2]
theorem lne : ¬ ("room" : Str) = "piece" ∧ ¬ ("room" : Str) = "pieces" ∧ ¬ ("room" : Str) = "full" ∧ ¬ ("room" : Str) = "latest" ∧ ¬ ("room" : Str) = "came" ∧ ¬ ("piece" : Str) = "pieces" ∧ ¬ ("piece" : Str) = "full" ∧ ¬ ("piece" : Str) = "latest" ∧ ¬ ("piece" : Str) = "came" ∧
    ¬ ("pieces" : Str) = "full" ∧ ¬ ("pieces" : Str) = "latest" ∧ ¬ ("pieces" : Str) = "came" ∧ ¬ ("full" : Str) = "latest" ∧ ¬ ("full" : Str) = "came" ∧ ¬ ("latest" : Str) = "came" := by decide +kernel
theorem lfl_make : putF "came" (.int came) (putF "latest" (.ref lp) (putF "full" (.ref fl) (putF "pieces" (.int pieces) (putF "piece" (.int piece) (putF "room" (.int room) []))))) = lfl room piece pieces fl lp came := by
  simp only [putF, lfl, if_neg lne.1, if_neg lne.2.1, if_neg lne.2.2.1, if_neg lne.2.2.2.1, if_neg lne.2.2.2.2.1, if_neg lne.2.2.2.2.2.1, if_neg lne.2.2.2.2.2.2.1, if_neg lne.2.2.2.2.2.2.2.1, if_neg lne.2.2.2.2.2.2.2.2.1, if_neg lne.2.2.2.2.2.2.2.2.2.1, if_neg lne.2.2.2.2.2.2.2.2.2.2.1, if_neg lne.2.2.2.2.2.2.2.2.2.2.2.1, if_neg lne.2.2.2.2.2.2.2.2.2.2.2.2.1, if_neg lne.2.2.2.2.2.2.2.2.2.2.2.2.2.1, if_neg lne.2.2.2.2.2.2.2.2.2.2.2.2.2.2]
theorem lfl_put_came (z : Int) : putF "came" (.int z) (lfl room piece pieces fl lp came) = lfl room piece pieces fl lp z := by
  simp only [putF, lfl, if_neg lne.2.2.2.2.1, if_neg lne.2.2.2.2.2.2.2.2.1, if_neg lne.2.2.2.2.2.2.2.2.2.2.2.1, if_neg lne.2.2.2.2.2.2.2.2.2.2.2.2.2.1, if_neg lne.2.2.2.2.2.2.2.2.2.2.2.2.2.2, if_true]
theorem lfl_put_latest (z : Addr) : putF "latest" (.ref z) (lfl room piece pieces fl lp came) = lfl room piece pieces fl z came := by
  simp only [putF, lfl, if_neg lne.2.2.2.1, if_neg lne.2.2.2.2.2.2.2.1, if_neg lne.2.2.2.2.2.2.2.2.2.2.1, if_neg lne.2.2.2.2.2.2.2.2.2.2.2.2.1, if_true]
theorem lfl_put_full (z : Addr) : putF "full" (.ref z) (lfl room piece pieces fl lp came) = lfl room piece pieces z lp came := by
  simp only [putF, lfl, if_neg lne.2.2.1, if_neg lne.2.2.2.2.2.2.1, if_neg lne.2.2.2.2.2.2.2.2.2.1, if_true]
theorem put_len_le (f : Str) (v : V) : ∀ fs : List (Str × V), (putF f v fs).length ≤ fs.length + 1
  | [] => Nat.le_refl _
  | e :: fs => by
    unfold putF
    split
    · exact Nat.le_succ _
    · rw [List.length_cons, List.length_cons]
      have := put_len_le f v fs
      omega
end
end DK

set_option Elab.async false
set_option linter.all false
set_option maxRecDepth 100000
set_option maxHeartbeats 4000000
namespace DK
open PySem PySem.Spec PyProof.Rows L2
/-! ### what is told of pieces keeps within its bounds -/
def tblP (xs : List CM) : CM := xs.foldl (fun t x => addC t (trueT x)) []
theorem bn_run {r : Int} (h1 : 1 ≤ r) {pl : CM} (h : ∀ e ∈ pl, isWt e.2 = true) : Bn r (runC r pl).1 (runC r pl).2.1 (runC r pl).2.2 (trueT pl) :=
  let B := run_bnd h1 h
  ⟨B.nd, B.ndt, B.pos, B.post, B.g0, B.tot, by have := B.sm; omega, B.lo, B.hi⟩
theorem bn_tell {r : Int} (h1 : 1 ≤ r) {xs : List CM} (h : ∀ x ∈ xs, ∀ e ∈ x, isWt e.2 = true) : Bn r (tellD r xs).1 (tellD r xs).2.1 (tellD r xs).2.2 (tblP xs) := by
  have go : ∀ (xs : List CM) (s : S3) (t : CM), Bn r s.1 s.2.1 s.2.2 t → (∀ x ∈ xs, ∀ e ∈ x, isWt e.2 = true) →
      Bn r (xs.foldl (fun s x => pourD r s (runC r x)) s).1 (xs.foldl (fun s x => pourD r s (runC r x)) s).2.1 (xs.foldl (fun s x => pourD r s (runC r x)) s).2.2 (xs.foldl (fun t x => addC t (trueT x)) t) := by
    intro xs
    induction xs with
    | nil => exact fun s t B _ => B
    | cons x xs ih =>
      intro s t B h
      have B2 := bn_run h1 (h x (List.mem_cons_self ..))
      exact ih _ _ (bn_cut (by omega) (bn_add (bn_perm (sortC_perm _) B) (bn_perm (sortC_perm _) B2))) fun y hy => h y (List.mem_cons_of_mem _ hy)
  exact go xs _ _ (bn_start r) h
theorem wsum_flat (n : Str) : ∀ xs : List CM, wsum xs.flatten n = (xs.map fun x => wsum x n).sum
  | [] => rfl
  | x :: xs => by rw [List.flatten_cons, wsum_app, wsum_flat n xs, List.map_cons, List.sum_cons]
theorem tbl_get {r : Int} (h1 : 1 ≤ r) {xs : List CM} (h : ∀ x ∈ xs, ∀ e ∈ x, isWt e.2 = true) (n : Str) : getD0 (tblP xs) n = wsum xs.flatten n := by
  have go : ∀ (xs : List CM) (t : CM), (∀ x ∈ xs, ∀ e ∈ x, isWt e.2 = true) → getD0 (xs.foldl (fun t x => addC t (trueT x)) t) n = getD0 t n + (xs.map fun x => wsum x n).sum := by
    intro xs
    induction xs with
    | nil => exact fun t _ => (Int.add_zero _).symm
    | cons x xs ih =>
      intro t h
      have B2 := run_bnd h1 (h x (List.mem_cons_self ..))
      rw [List.foldl_cons, ih _ fun y hy => h y (List.mem_cons_of_mem _ hy), get_add B2.ndt, true_get, List.map_cons, List.sum_cons]
      omega
  rw [wsum_flat]
  unfold tblP
  rw [go xs [] h]
  exact Int.zero_add _
theorem sum_flat : ∀ xs : List CM, sumC xs.flatten = (xs.map sumC).sum
  | [] => rfl
  | x :: xs => by rw [List.flatten_cons, sum_app, sum_flat xs, List.map_cons, List.sum_cons]
theorem tell_tot (r : Int) (xs : List CM) : (tellD r xs).2.2 = sumC xs.flatten := by
  have go : ∀ (xs : List CM) (s : S3), (xs.foldl (fun s x => pourD r s (runC r x)) s).2.2 = s.2.2 + (xs.map sumC).sum := by
    intro xs
    induction xs with
    | nil => exact fun s => (Int.add_zero _).symm
    | cons x xs ih =>
      intro s
      rw [List.foldl_cons, ih]
      show s.2.2 + (runC r x).2.2 + _ = _
      rw [run_tot, List.map_cons, List.sum_cons]
      omega
  rw [sum_flat]
  unfold tellD
  rw [go]
  exact Int.zero_add _
/-- which of the comings are covered -/
def Cov (pn : Nat) (pl : CM) (fs : List CM) (la : CM) : Prop := ∃ pre : CM, pl = pre ++ (fs ++ [la]).flatten ∧ (pre ≠ [] → fs.length = pn)
theorem cov_step {pc pn : Nat} {pl : CM} {fs : List CM} {la : CM} {e : Str × Int} (hc : fs.length ≤ pn) (h : Cov pn pl fs la) : Cov pn (pl ++ [e]) (stepP pc pn (fs, la) e).1 (stepP pc pn (fs, la) e).2 := by
  obtain ⟨pre, rfl, hp⟩ := h
  have base : pre ++ (fs ++ [la]).flatten ++ [e] = pre ++ (fs ++ [la ++ [e]]).flatten := by
    rw [List.flatten_append, List.flatten_append]
    simp
  unfold stepP
  split
  · by_cases hf : fs.length + 1 ≤ pn
    · refine ⟨pre, ?_, fun hne => ?_⟩
      · rw [base]
        have e1 : lastn pn (fs ++ [la ++ [e]]) = fs ++ [la ++ [e]] := by
          unfold lastn
          rw [List.length_append, show fs.length + [la ++ [e]].length - pn = 0 by show fs.length + 1 - pn = 0; omega, List.drop_zero]
        rw [e1]
        simp
      · have := hp hne
        omega
    · have hl : fs.length = pn := by omega
      have e1 : lastn pn (fs ++ [la ++ [e]]) = (fs ++ [la ++ [e]]).drop 1 := by
        unfold lastn
        rw [List.length_append, show fs.length + [la ++ [e]].length - pn = 1 by show fs.length + 1 - pn = 1; omega]
      refine ⟨pre ++ ((fs ++ [la ++ [e]]).take 1).flatten, ?_, fun _ => ?_⟩
      · have e2 : (fs ++ [la ++ [e]]).flatten = ((fs ++ [la ++ [e]]).take 1).flatten ++ ((fs ++ [la ++ [e]]).drop 1).flatten := by rw [← List.flatten_append, List.take_append_drop]
        have e3 : ((fs ++ [la ++ [e]]).drop 1 ++ [([] : CM)]).flatten = ((fs ++ [la ++ [e]]).drop 1).flatten := by
          rw [List.flatten_append]
          exact List.append_nil _
        dsimp only
        rw [base, e1, e3, List.append_assoc, ← e2]
      · rw [e1, List.length_drop, List.length_append]
        show fs.length + 1 - 1 = pn
        omega
  · exact ⟨pre, base, hp⟩
theorem flat_len {pc : Nat} : ∀ {fs : List CM}, (∀ x ∈ fs, x.length = pc) → fs.flatten.length = fs.length * pc
  | [], _ => by rw [List.length_nil, Nat.zero_mul]; rfl
  | x :: fs, h => by
    rw [List.flatten_cons, List.length_append, h x (List.mem_cons_self ..), flat_len fun y hy => h y (List.mem_cons_of_mem _ hy), List.length_cons, Nat.succ_mul]
    omega
end DK

set_option Elab.async false
set_option linter.all false
set_option maxRecDepth 100000
set_option maxHeartbeats 4000000
namespace DK
open PySem PySem.Spec PyProof.Rows L2
/-! ### numbers and rows as texts -/
abbrev figures : Str := "0123456789"
def digC (c : Nat) : Bool := decide (48 ≤ c ∧ c ≤ 57)
abbrev mostN : Int := 10000000000000000000000000000000000000000000000000000000000000000000000
def numS (i : Int) : Str := Str.ofString (toString i)
theorem cs_num (n : Nat) : cs (numS (n : Int)) = TL.numL n := TL.tl_num n
theorem figures_contains (c : Nat) : figures.cps.contains c = digC c := by
  have e : figures.cps = #[48, 49, 50, 51, 52, 53, 54, 55, 56, 57] := by decide +kernel
  rw [e]
  unfold digC
  rcases Nat.lt_or_ge c 128 with h | h
  · revert c
    decide +kernel
  · have h1 : ¬ (48 ≤ c ∧ c ≤ 57) := by omega
    rw [decide_eq_false h1]
    refine Bool.eq_false_iff.mpr fun hm => ?_
    rw [Array.contains_iff] at hm
    simp only [List.mem_toArray, List.mem_cons, List.not_mem_nil, or_false] at hm
    omega
theorem strip_figures (x : Str) : decide (V.str (PySem.Txt.stripChars x figures) = V.str "") = x.cps.toList.all digC := by
  have e0 : ("" : Str) = Str.empty := by decide +kernel
  have e1 : (fun c => figures.cps.contains c) = digC := funext figures_contains
  have h := strip_empty_iff digC x
  unfold PySem.Txt.stripChars
  rw [show figures.cps.contains = digC from e1, e0]
  cases ha : x.cps.toList.all digC with
  | true =>
    rw [h.mpr ha]
    simp
  | false =>
    refine decide_eq_false fun e => ?_
    have := h.mp (V.str.inj e)
    rw [ha] at this
    cases this
theorem digs_of {l : List Nat} (h : l.all digC = true) : NumText.AllDigits l := fun c hc => of_decide_eq_true (List.all_eq_true.mp h c hc)
theorem of_digs {l : List Nat} (h : NumText.AllDigits l) : l.all digC = true := List.all_eq_true.mpr fun c hc => decide_eq_true (h c hc)
/-- the number that a word is, or none -/
def numOf (z : Str) (lo hi : Int) : Option Int :=
  if (decide (0 < z.length ∧ z.length < 73) && (cs z).all digC && !(decide ((cs z)[0]? = some 48) && decide (1 < z.length))) = true then
    if lo ≤ ((NumText.digitsVal (cs z) : Nat) : Int) ∧ ((NumText.digitsVal (cs z) : Nat) : Int) ≤ hi then some ((NumText.digitsVal (cs z) : Nat) : Int) else none
  else none
theorem num_head : ∀ (n : Nat), 1 ≤ n → (TL.numL n)[0]? ≠ some 48 := by
  intro n
  induction n using Nat.strongRecOn with
  | _ n ih =>
    intro h1
    by_cases h : n < 10
    · rw [TL.numL_lt h]
      intro e
      have := Option.some.inj e
      omega
    · rw [TL.numL_step (by omega)]
      have hne := TL.numL_ne (n / 10)
      rw [List.getElem?_append_left (List.length_pos_iff.mpr hne)]
      exact ih (n / 10) (by omega) (by omega)
theorem num_len (n : Nat) : (numS (n : Int)).length = (TL.numL n).length := by rw [cs_len, cs_num]
theorem num_short {n : Nat} (h : (n : Int) ≤ mostN) : (TL.numL n).length ≤ 71 := TL.numL_len (by decide) (by
  have h2 : (n : Int) ≤ 10000000000000000000000000000000000000000000000000000000000000000000000 := h
  have : n ≤ 10000000000000000000000000000000000000000000000000000000000000000000000 := by omega
  refine Nat.lt_of_le_of_lt this ?_
  decide +kernel)
theorem numOf_num {n : Nat} {lo hi : Int} (hm : (n : Int) ≤ mostN) (h1 : lo ≤ (n : Int)) (h2 : (n : Int) ≤ hi) : numOf (numS (n : Int)) lo hi = some (n : Int) := by
  have hl := num_short hm
  have hp : 0 < (TL.numL n).length := List.length_pos_iff.mpr (TL.numL_ne n)
  have hd := of_digs (TL.numL_digits n)
  have c3 : (decide ((TL.numL n)[0]? = some 48) && decide (1 < (TL.numL n).length)) = false := by
    by_cases h0 : n = 0
    · subst h0
      rfl
    · rw [decide_eq_false (num_head n (by omega)), Bool.false_and]
  unfold numOf
  rw [num_len, cs_num, TL.numL_val, decide_eq_true (show 0 < (TL.numL n).length ∧ (TL.numL n).length < 73 by omega), hd, c3]
  exact (if_pos rfl).trans (if_pos ⟨h1, h2⟩)
/-! ### the text of a desk -/
def headT (r g t : Int) : Str := Txt.join " " [("desk" : Str), numS r, numS g, numS t]
def rowT (e : Str × Int) : Str := e.1 ++ " " ++ numS e.2
def rowsT (r : Int) (c : CM) (g t : Int) : List Str := headT r g t :: c.map rowT
def textT (r : Int) (c : CM) (g t : Int) : Str := Txt.join "\n" (rowsT r c g t ++ [("" : Str)])
def textF (r : Int) (c : CM) (g t : Int) : Str := c.foldl (fun acc e => acc ++ (rowT e ++ "\n")) (headT r g t ++ "\n")
theorem joinL_snoc (S : List Nat) : ∀ (ps : List (List Nat)) (p : List Nat), ps ≠ [] → TL.joinL S (ps ++ [p]) = TL.joinL S ps ++ (S ++ p)
  | [], _, h => absurd rfl h
  | [a], p, _ => rfl
  | a :: b :: r, p, _ => by
    show a ++ (S ++ TL.joinL S ((b :: r) ++ [p])) = a ++ (S ++ TL.joinL S (b :: r)) ++ (S ++ p)
    rw [joinL_snoc S (b :: r) p (by simp), List.append_assoc, List.append_assoc]
theorem cs_join (y : Str) (ps : List Str) : cs (Txt.join y ps) = TL.joinL (cs y) (ps.map cs) := by
  rw [TL.join_eq]
  exact TL.tl_join y ps
theorem join_snoc (y : Str) (ps : List Str) (h : ps ≠ []) : Txt.join y (ps ++ [("" : Str)]) = Txt.join y ps ++ y := by
  refine cs_inj ?_
  rw [cs_join, List.map_append, cs_app, cs_join]
  have e : cs ("" : Str) = [] := by decide +kernel
  show TL.joinL (cs y) (ps.map cs ++ [cs ""]) = _
  rw [joinL_snoc _ _ _ (fun z => h (List.map_eq_nil_iff.mp z)), e, List.append_nil]
theorem text_join (r : Int) (c : CM) (g t : Int) : textT r c g t = Txt.join "\n" (rowsT r c g t) ++ "\n" := join_snoc _ _ (by unfold rowsT; simp)
theorem join_more (y : Str) (ps : List Str) (p : Str) (h : ps ≠ []) : Txt.join y (ps ++ [p]) = Txt.join y ps ++ (y ++ p) := by
  refine cs_inj ?_
  rw [cs_join, List.map_append, cs_app, cs_app, cs_join]
  exact joinL_snoc _ _ _ (fun z => h (List.map_eq_nil_iff.mp z))
theorem app_assoc (a b c : Str) : a ++ b ++ c = a ++ (b ++ c) := cs_inj (by rw [cs_app, cs_app, cs_app, cs_app, List.append_assoc])
theorem text_snoc (r : Int) (c : CM) (e : Str × Int) (g t : Int) : textT r (c ++ [e]) g t = textT r c g t ++ (rowT e ++ "\n") := by
  rw [text_join, text_join]
  have h : rowsT r (c ++ [e]) g t = rowsT r c g t ++ [rowT e] := by unfold rowsT; rw [List.map_append]; rfl
  rw [h, join_more _ _ _ (by unfold rowsT; simp), app_assoc, app_assoc, app_assoc]
theorem text_nil (r g t : Int) : textT r [] g t = headT r g t ++ "\n" := by
  rw [text_join]
  rfl
theorem cs_row (e : Str × Int) : cs (rowT e) = cs e.1 ++ (32 :: cs (numS e.2)) := by
  unfold rowT
  rw [cs_app, cs_app]
  have : cs (" " : Str) = [32] := by decide +kernel
  rw [this, List.append_assoc]
  rfl
theorem row_join (e : Str × Int) : rowT e = Txt.join " " [e.1, numS e.2] := by
  refine cs_inj ?_
  rw [cs_row, cs_join]
  have : cs (" " : Str) = [32] := by decide +kernel
  rw [this]
  rfl
/-- what a desk has that a text can tell -/
structure Good (r : Int) (c : CM) (g t : Int) : Prop where
  r1 : 1 ≤ r
  r2 : r ≤ 50
  nm : ∀ e ∈ c, isName e.1 = true
  asc : c.Pairwise fun e f => slt e.1 f.1 = true
  lo : ∀ e ∈ c, 1 ≤ e.2
  hi : ∀ e ∈ c, e.2 ≤ mostN
  ln : (c.length : Int) ≤ r
  g0 : 0 ≤ g
  g1 : g ≤ mostN
  t0 : 0 ≤ t
  t1 : t ≤ mostN
  sm : sumC c + (r + 1) * g ≤ t
theorem nat_of {i : Int} (h : 0 ≤ i) : ∃ n : Nat, i = (n : Int) := ⟨i.toNat, by omega⟩
theorem num_free {i : Int} (h : 0 ≤ i) {s : Nat} (hs : s < 48 ∨ 57 < s) : s ∉ cs (numS i) := by
  obtain ⟨n, rfl⟩ := nat_of h
  rw [cs_num]
  exact TL.numL_free hs
theorem name_free {n : Str} (h : isName n = true) {s : Nat} (hs : s < 97) : s ∉ cs n := fun hm => by
  have := ((isName_iff n).mp h).2.2 s hm
  omega
theorem desk_free {s : Nat} (hs : s < 97) : s ∉ cs ("desk" : Str) := by
  have : cs ("desk" : Str) = [100, 101, 115, 107] := by decide +kernel
  rw [this]
  intro h
  simp only [List.mem_cons, List.not_mem_nil, or_false] at h
  omega
theorem split_head {r g t : Int} (hr : 0 ≤ r) (hg : 0 ≤ g) (ht : 0 ≤ t) : Txt.split (headT r g t) " " = [("desk" : Str), numS r, numS g, numS t] := by
  refine TL.split_join (s := 32) (S := []) (by decide +kernel) (by decide +kernel) (by simp) fun p hp => ?_
  simp only [List.mem_cons, List.not_mem_nil, or_false] at hp
  rcases hp with rfl | rfl | rfl | rfl
  · exact desk_free (by decide)
  · exact num_free hr (.inl (by decide))
  · exact num_free hg (.inl (by decide))
  · exact num_free ht (.inl (by decide))
theorem split_row {e : Str × Int} (hn : isName e.1 = true) (h0 : 0 ≤ e.2) : Txt.split (rowT e) " " = [e.1, numS e.2] := by
  rw [row_join]
  refine TL.split_join (s := 32) (S := []) (by decide +kernel) (by decide +kernel) (by simp) fun p hp => ?_
  simp only [List.mem_cons, List.not_mem_nil, or_false] at hp
  rcases hp with rfl | rfl
  · exact name_free hn (by decide)
  · exact num_free h0 (.inl (by decide))
theorem head_free {r g t : Int} (hr : 0 ≤ r) (hg : 0 ≤ g) (ht : 0 ≤ t) : 10 ∉ cs (headT r g t) := by
  unfold headT
  rw [cs_join]
  have e : cs (" " : Str) = [32] := by decide +kernel
  rw [e]
  show 10 ∉ cs "desk" ++ ([32] ++ (cs (numS r) ++ ([32] ++ (cs (numS g) ++ ([32] ++ cs (numS t))))))
  intro h
  simp only [List.mem_append, List.mem_cons, List.not_mem_nil, or_false] at h
  rcases h with h | h | h | h | h | h | h
  · exact desk_free (by decide) h
  · cases h
  · exact num_free hr (.inl (by decide)) h
  · cases h
  · exact num_free hg (.inl (by decide)) h
  · cases h
  · exact num_free ht (.inl (by decide)) h
theorem row_free {e : Str × Int} (hn : isName e.1 = true) (h0 : 0 ≤ e.2) : 10 ∉ cs (rowT e) := by
  rw [cs_row]
  intro h
  rcases List.mem_append.mp h with h | h
  · exact name_free hn (by decide) h
  · rcases List.mem_cons.mp h with h | h
    · cases h
    · exact num_free h0 (.inl (by decide)) h
theorem split_text {r : Int} {c : CM} {g t : Int} (G : Good r c g t) : Txt.split (textT r c g t) "\n" = rowsT r c g t ++ [("" : Str)] := by
  refine TL.split_join (s := 10) (S := []) (by decide +kernel) (by decide +kernel) (by simp) fun p hp => ?_
  rcases List.mem_append.mp hp with h | h
  · rcases List.mem_cons.mp h with rfl | h
    · exact head_free (by have := G.r1; omega) G.g0 G.t0
    · obtain ⟨e, he, rfl⟩ := List.mem_map.mp h
      exact row_free (G.nm e he) (by have := G.lo e he; omega)
  · rw [List.mem_singleton.mp h]
    have : cs ("" : Str) = [] := by decide +kernel
    show 10 ∉ cs ("" : Str)
    rw [this]
    exact fun z => nomatch z
/-! ### how long they are -/
theorem str_len_app (a b : Str) : (a ++ b).length = a.length + b.length := by rw [cs_len, cs_app, List.length_append, ← cs_len, ← cs_len]
theorem num_len_le {i : Int} (h0 : 0 ≤ i) (h : i ≤ mostN) : (numS i).length ≤ 71 := by
  obtain ⟨n, rfl⟩ := nat_of h0
  rw [num_len]
  exact num_short h
theorem name_len {n : Str} (h : isName n = true) : 1 ≤ n.length ∧ n.length ≤ 8 := by
  have := (isName_iff n).mp h
  rw [cs_len]
  exact ⟨this.1, this.2.1⟩
theorem row_len {e : Str × Int} (hn : isName e.1 = true) (h0 : 0 ≤ e.2) (h : e.2 ≤ mostN) : (rowT e).length ≤ 80 := by
  have h1 := name_len hn
  have h2 := num_len_le h0 h
  have h3 : (" " : Str).length = 1 := by decide +kernel
  unfold rowT
  rw [str_len_app, str_len_app, h3]
  omega
theorem head_len {r g t : Int} (hr : 0 ≤ r) (hr2 : r ≤ mostN) (hg : 0 ≤ g) (hg2 : g ≤ mostN) (ht : 0 ≤ t) (ht2 : t ≤ mostN) : (headT r g t).length ≤ 250 := by
  have e : cs (" " : Str) = [32] := by decide +kernel
  have ed : (cs ("desk" : Str)).length = 4 := by decide +kernel
  have a1 := num_len_le hr hr2
  have a2 := num_len_le hg hg2
  have a3 := num_len_le ht ht2
  rw [cs_len] at a1 a2 a3
  rw [cs_len]
  unfold headT
  rw [cs_join, e]
  show (cs "desk" ++ ([32] ++ (cs (numS r) ++ ([32] ++ (cs (numS g) ++ ([32] ++ cs (numS t))))))).length ≤ 250
  simp only [List.length_append, List.length_cons, List.length_nil, ed]
  omega
theorem text_len {r g t : Int} (hr : 0 ≤ r) (hr2 : r ≤ mostN) (hg : 0 ≤ g) (hg2 : g ≤ mostN) (ht : 0 ≤ t) (ht2 : t ≤ mostN) (c : CM) (h : ∀ e ∈ c, isName e.1 = true ∧ 0 ≤ e.2 ∧ e.2 ≤ mostN) : (textT r c g t).length ≤ 251 + 81 * c.length := by
  have hn : ("\n" : Str).length = 1 := by decide +kernel
  have go : ∀ (k : Nat), k ≤ c.length → (textT r (c.take k) g t).length ≤ 251 + 81 * k := by
    intro k
    induction k with
    | zero =>
      intro _
      have := head_len hr hr2 hg hg2 ht ht2
      rw [List.take_zero, text_nil, str_len_app, hn]
      omega
    | succ k ih =>
      intro hk
      have ih := ih (by omega)
      have hm := h c[k] (List.getElem_mem _)
      have := row_len hm.1 hm.2.1 hm.2.2
      rw [List.take_succ_eq_append_getElem (by omega), text_snoc, str_len_app, str_len_app, hn]
      omega
  have := go c.length (Nat.le_refl _)
  rw [List.take_of_length_le (Nat.le_refl _)] at this
  exact this
end DK

set_option Elab.async false
set_option linter.all false
set_option maxRecDepth 100000
set_option maxHeartbeats 4000000
namespace DK
open PySem PySem.Spec PyProof.Rows L2
/-! ### a text read -/
def headOf (z : Str) : Option (Int × Int × Int) :=
  match Txt.split z " " with
  | [a, b, c, d] => if a = ("desk" : Str) then
      match numOf b 1 50, numOf c 0 mostN, numOf d 0 mostN with
      | some r, some g, some t => some (r, g, t)
      | _, _, _ => none
    else none
  | _ => none
def pairOf (z : Str) : Option (Str × Int) :=
  match Txt.split z " " with
  | [a, b] => if isName a = true then (numOf b 1 mostN).map fun n => (a, n) else none
  | _ => none
theorem head_of_text {r g t : Int} (r1 : 1 ≤ r) (r2 : r ≤ 50) (g0 : 0 ≤ g) (g1 : g ≤ mostN) (t0 : 0 ≤ t) (t1 : t ≤ mostN) : headOf (headT r g t) = some (r, g, t) := by
  unfold headOf
  rw [split_head (by omega) g0 t0]
  obtain ⟨a, rfl⟩ := nat_of (show 0 ≤ r by omega)
  obtain ⟨b, rfl⟩ := nat_of g0
  obtain ⟨c, rfl⟩ := nat_of t0
  have m : (50 : Int) ≤ mostN := by decide
  dsimp only
  rw [if_pos rfl, numOf_num (by omega) r1 r2, numOf_num g1 g0 g1, numOf_num t1 t0 t1]
theorem pair_of_row {e : Str × Int} (hn : isName e.1 = true) (h1 : 1 ≤ e.2) (h2 : e.2 ≤ mostN) : pairOf (rowT e) = some e := by
  unfold pairOf
  rw [split_row hn (by omega)]
  obtain ⟨n, v⟩ := e
  obtain ⟨a, rfl⟩ := nat_of (show 0 ≤ v by dsimp only at h1; omega)
  dsimp only at hn h1 h2 ⊢
  rw [if_pos hn, numOf_num h2 h1 h2]
  rfl
/-- a part is no longer than the whole -/
theorem joinL_le {S : List Nat} : ∀ {ps : List (List Nat)} {p : List Nat}, p ∈ ps → p.length ≤ (TL.joinL S ps).length
  | [], _, h => nomatch h
  | [a], p, h => by
    rw [List.mem_singleton.mp h]
    exact Nat.le_refl _
  | a :: b :: r, p, h => by
    show p.length ≤ (a ++ (S ++ TL.joinL S (b :: r))).length
    rw [List.length_append, List.length_append]
    rcases List.mem_cons.mp h with rfl | h
    · omega
    · have := joinL_le (S := S) h
      omega
theorem split_le {x y p : Str} (h : p ∈ Txt.split x y) : p.length ≤ x.length := by
  have e := StrLaws.join_split x y
  have h2 : cs x = TL.joinL (cs y) ((Txt.split x y).map cs) := by
    rw [← TL.tl_join, e]
  rw [cs_len, cs_len, h2]
  exact joinL_le (List.mem_map.mpr ⟨p, h, rfl⟩)
theorem figs_int {z : Str} (h0 : 0 < z.length) (h1 : z.length < 73) (hd : (cs z).all digC = true) : intText? z = some ((NumText.digitsVal (cs z) : Nat) : Int) ∧ z.length ≤ 640 := by
  refine ⟨intText_digits (digs_of hd) (fun e => ?_) (by omega), by omega⟩
  rw [cs_len] at h0
  rw [show cs z = [] from e] at h0
  exact absurd h0 (by decide)
theorem slt_le {a b : Str} : (!decide (b.cps.toList < a.cps.toList)) = !slt b a := rfl
theorem asc_sort {c : CM} (h : c.Pairwise fun e f => slt e.1 f.1 = true) : sortC c = c ∧ (keysC c).Nodup := by
  have nd : (keysC c).Nodup := by
    unfold keysC
    exact List.pairwise_map.mpr (h.imp fun {a b} h e => by rw [e, slt_irr] at h; cases h)
  refine ⟨?_, nd⟩
  refine (sortC_eq nd (List.Perm.refl _) (h.imp fun {a b} h => ?_)).symm
  unfold sle
  rw [slt_asym _ _ h]
  rfl
theorem sort_asc {c : CM} (nd : (keysC c).Nodup) : (sortC c).Pairwise fun e f => slt e.1 f.1 = true := by
  have h1 := sortC_asc c
  have h2 : (sortC c).Pairwise fun e f => e.1 ≠ f.1 := by
    have := sortC_nodup nd
    unfold keysC at this
    exact List.pairwise_map.mp this
  refine (h1.and h2).imp fun {a b} h => ?_
  cases hs : slt a.1 b.1 with
  | true => rfl
  | false =>
    have h3 : sle a.1 b.1 = true := h.1
    unfold sle at h3
    have h4 : slt b.1 a.1 = false := by
      cases hh : slt b.1 a.1 with
      | true => rw [hh] at h3; cases h3
      | false => rfl
    exact absurd (slt_tot _ _ hs h4) h.2
end DK

set_option Elab.async false
set_option linter.all false
set_option maxRecDepth 100000
set_option maxHeartbeats 4000000
namespace DK
open PySem PySem.Spec PyProof.Rows L2
/-! ### a desk that a text can tell -/
structure Tel (nm : List Str) (r : Int) (c : CM) (g t : Int) : Prop where
  nm : ∀ n ∈ keysC c, n ∈ nm
  pc : posC c
  g0 : 0 ≤ g
  sm : sumC c + (r + 1) * g ≤ t
  t1 : t ≤ mostN
theorem le_sum {c : CM} (h : posC c) : ∀ e ∈ c, e.2 ≤ sumC c := by
  induction c with
  | nil => exact fun _ h => nomatch h
  | cons x c ih =>
    have hc : posC c := fun e he => h e (List.mem_cons_of_mem _ he)
    have h0 := sum_nonneg hc
    have hx := h x (List.mem_cons_self ..)
    intro e he
    rw [sumC_cons]
    rcases List.mem_cons.mp he with rfl | he
    · omega
    · have := ih hc e he
      omega
section
variable {nm : List Str} {r : Int} {c : CM} {g t : Int}
theorem Tel.rg (T : Tel nm r c g t) (h1 : 1 ≤ r) : sumC c ≤ t ∧ g ≤ t ∧ 0 ≤ t := by
  have h0 := sum_nonneg T.pc
  have h2 : g * 1 ≤ g * (r + 1) := Int.mul_le_mul_of_nonneg_left (by omega) T.g0
  have h3 := T.sm
  rw [Int.mul_comm (r + 1) g] at h3
  have := T.g0
  omega
theorem Tel.v1 (T : Tel nm r c g t) (h1 : 1 ≤ r) : ∀ e ∈ c, e.2 ≤ mostN := fun e he => by
  have := le_sum T.pc e he
  have := (T.rg h1).1
  have := T.t1
  omega
theorem Tel.g1 (T : Tel nm r c g t) (h1 : 1 ≤ r) : g ≤ mostN := by
  have := (T.rg h1).2.1
  have := T.t1
  omega
theorem Tel.perm {c' : CM} (T : Tel nm r c g t) (p : c'.Perm c) (hs : sumC c' = sumC c) : Tel nm r c' g t := ⟨fun n hn => T.nm n ((perm_keys p).mem_iff.mp hn), pos_perm p T.pc, T.g0, by rw [hs]; exact T.sm, T.t1⟩
theorem Tel.good (T : Tel nm r c g t) (ok : ∀ n ∈ nm, isName n = true) (nd : (keysC c).Nodup) (ln : (c.length : Int) ≤ r) (r1 : 1 ≤ r) (r2 : r ≤ 50) (hs : sumC (sortC c) = sumC c) : Good r (sortC c) g t := by
  have mem : ∀ e ∈ sortC c, e ∈ c := fun e he => (sortC_perm c).mem_iff.mp he
  refine ⟨r1, r2, fun e he => ok _ (T.nm _ (List.mem_map.mpr ⟨e, mem e he, rfl⟩)), sort_asc nd, fun e he => ?_, fun e he => T.v1 r1 e (mem e he), ?_, T.g0, T.g1 r1, (T.rg r1).2.2, T.t1, ?_⟩
  · have := T.pc e (mem e he)
    omega
  · rw [sortC_len]
    exact ln
  · rw [hs]
    exact T.sm
theorem Tel.less {r' : Int} (T : Tel nm r c g t) (h0 : 1 ≤ r') (h : r' ≤ r) (p : (sortC c).Perm c) (hs : sumC (sortC c) = sumC c) : Tel nm r' (lowered (sortC c) (cutAt r' (sortC c))) (g + cutAt r' (sortC c)) t := by
  have ps := pos_perm p T.pc
  have cs := cut_sum (room := r') (by omega) ps
  have c0 := cut_pos (room := r') (by omega) ps
  refine ⟨fun n hn => T.nm n ((perm_keys p).mem_iff.mp ((lowered_keys _ _).subset hn)), pos_lowered, by have := T.g0; omega, ?_, T.t1⟩
  have h1 : (r' + 1) * g ≤ (r + 1) * g := Int.mul_le_mul_of_nonneg_right (by omega) T.g0
  have h2 := T.sm
  rw [Int.mul_add]
  omega
end
theorem sum_le_len {B : Int} : ∀ {pl : CM}, (∀ e ∈ pl, e.2 ≤ B) → sumC pl ≤ pl.length * B
  | [], _ => by rw [List.length_nil]; show (0 : Int) ≤ _; rw [show ((0 : Nat) : Int) = 0 from rfl, Int.zero_mul]; exact Int.le_refl _
  | e :: pl, h => by
    have ih := sum_le_len (pl := pl) fun x hx => h x (List.mem_cons_of_mem _ hx)
    have := h e (List.mem_cons_self ..)
    rw [sumC_cons, List.length_cons, Int.natCast_succ, Int.add_mul, Int.one_mul]
    omega
theorem run_tel {nm : List Str} {r : Int} (h1 : 1 ≤ r) {pl : CM} (hl : pl.length ≤ 63) (h : okX nm pl) : Tel nm r (runC r pl).1 (runC r pl).2.1 (runC r pl).2.2 := by
  have hw : ∀ e ∈ pl, isWt e.2 = true := fun e he => (h e he).2
  have B := run_bnd h1 hw
  refine ⟨fun n hn => ?_, B.pos, B.g0, by have := B.sm; omega, ?_⟩
  · obtain ⟨e, he, rfl⟩ := run_keys hn
    exact (h e he).1
  · rw [run_tot]
    have h2 : sumC pl ≤ pl.length * great := sum_le_len fun e he => (of_decide_eq_true (hw e he)).2
    have h3 : (pl.length : Int) * great ≤ 63 * great := Int.mul_le_mul_of_nonneg_right (by omega) (by decide)
    have h4 : 63 * great ≤ mostN := by decide
    omega
theorem sum_len_le {b : Nat} : ∀ {l : List Str}, (∀ x ∈ l, x.length ≤ b) → (l.map (·.length)).sum ≤ l.length * b
  | [], _ => by rw [List.length_nil, Nat.zero_mul]; exact Nat.le_refl _
  | x :: l, h => by
    have ih := sum_len_le (l := l) fun y hy => h y (List.mem_cons_of_mem _ hy)
    have := h x (List.mem_cons_self ..)
    rw [List.map_cons, List.sum_cons, List.length_cons, Nat.succ_mul]
    omega
end DK

set_option Elab.async false
set_option linter.all false
set_option maxRecDepth 100000
set_option maxHeartbeats 4000000
namespace DK
open PySem PySem.Spec PyProof.Rows L2
/-! ### a held exception that has fields -/
def rIsXD (K : PySem.W.Frag) : List V → Hp → VK → Prop := fun xs H Q => ∃ (a D d : Addr) (fs : List (Str × V)) (c : V) (cv : Value) (b : Bool), xs = [.ref a, c] ∧ H a = some (Held (.ref D) (some d) a) ∧ H d = some (.xd fs) ∧ ExcC K D ∧ ClsV c cv ∧ PySem.W.kitOne K (.ref D) cv = some b ∧ Q (.bl b) H
def rIsXDT (K : PySem.W.Frag) : List V → Hp → VK → Prop := fun xs H Q => ∃ (a D tp d : Addr) (fs : List (Str × V)) (cs : List V) (us : List Value) (b : Bool), xs = [.ref a, .ref tp] ∧ H a = some (Held (.ref D) (some d) a) ∧ H d = some (.xd fs) ∧ H tp = some (.tup cs) ∧ ExcC K D ∧ Paired ClsV cs us ∧ PySem.W.kitAny K (.ref D) us = some b ∧ Q (.bl b) H
section
variable {X : Cx} {pins : List (Addr × Obj)} {σ : L2.St} {H : Hp} {s : Shared}
theorem held_atD {a D d : Addr} {fs : List (Str × V)} (I : Inv X pins σ H s) (h : H a = some (Held (.ref D) (some d) a)) (hd : H d = some (.xd fs))  : ∃ (oe od : Obj) (mA : Str → Option Value), PySem.W.InstAt s.heap a oe D (some od) ∧ (∀ n, PySem.W.lookIn n od = some (mA n)) ∧ ∀ f, RelO (fs.lookup f) (mA f) := by
  obtain ⟨⟨oc, o1, dat, sl⟩, vs, e, ⟨z1, z2⟩, hdat⟩ := (show ObjOk X.prog X.w H s.heap a (Held (.ref D) (some d) a) from I.hok a _ h).1
  dsimp only at z1 z2 hdat
  subst z1 z2 hdat
  have hx : ObjOk X.prog X.w H s.heap d (.xd fs) := I.hok d _ hd
  obtain ⟨mA, hns, hr⟩ := hx
  obtain ⟨od, ho, hl⟩ := lookIn_ns hns
  exact ⟨_, od, mA, ⟨e, rfl, rfl, ho⟩, hl, hr⟩
theorem excC_cls {K : PySem.W.Frag} {D : Addr} (C : ExcC K D) : (PySem.W.clsIn K D).isSome = true := by
  obtain ⟨cd, hc, _⟩ := PySem.W.any_some C.hd
  rw [hc]
  rfl
theorem call_isXD : CallR X (.builtin "isinstance") (rIsXD X.K) := by
  intro pins s σ H xs us Q I r h
  obtain ⟨a, D, d, fs, c, cv, b, rfl, ha, hd, C, k, e, q⟩ := h
  obtain ⟨u1, u2, rfl, r1, r2⟩ := vals2 r
  obtain rfl : u1 = Value.ref a := r1
  obtain rfl := k.eq r2
  obtain ⟨oe, od, mA, J, _, _⟩ := held_atD I ha hd
  exact PySem.W.kia_one (PySem.W.kitx_exc (excC_cls C) C.hg C.hk C.hs C.ha C.hn C.ht C.hm) I.kIn J e (fun z => nomatch z) fun tk => ⟨.bl b, H, I.tok tk, rfl, q⟩
theorem call_isXDT : CallR X (.builtin "isinstance") (rIsXDT X.K) := by
  intro pins s σ H xs us Q I r h
  obtain ⟨a, D, tp, d, fs, cs, ws, b, rfl, ha, hd, hT, C, k, e, q⟩ := h
  obtain ⟨u1, u2, rfl, r1, r2⟩ := vals2 r
  obtain rfl : u1 = Value.ref a := r1
  obtain rfl : u2 = Value.ref tp := r2
  obtain ⟨oe, od, mA, J, _, _⟩ := held_atD I ha hd
  obtain ⟨_, its, rv, ⟨oc, o2, dt, sl⟩, h1, h2, n, h3⟩ := (show ObjOk X.prog X.w H s.heap tp (.tup cs) from I.hok tp _ hT)
  obtain rfl := ClsV.all k rv
  dsimp only at h2 h3
  subst h2 h3
  exact PySem.W.kia_tup (PySem.W.kitx_exc (excC_cls C) C.hg C.hk C.hs C.ha C.hn C.ht C.hm) I.kIn J h1 e (fun z => nomatch z) fun tk => ⟨.bl b, H, I.tok tk, rfl, q⟩
end
/-- e.f of it -/
def tXr (K : PySem.W.Frag) (f : Str) (te : TE) : TE := fun σ H Q => te σ H fun x H1 => ∃ (a C d : Addr) (fs : List (Str × V)) (v : V), x = .ref a ∧ H1 a = some (Held (.ref C) (some d) a) ∧ H1 d = some (.xd fs) ∧ XfC K C ∧ PySem.W.findIn K (.ref C) f = some none ∧ fs.lookup f = some v ∧ Q v H1
theorem pe_xr {X : Cx} {e : Expr} {te : TE} {pos : Pos} {n : Str} (he : PE X e te) (hb : attributeBase e n X.env (eval e X.env) = eval e X.env := by rfl) : PE X (.Attribute e n pos) (tXr X.K n te) := by
  refine ⟨fun pins s σ H Q I h => ?_⟩
  refine attr_of hb (thn (he.run pins s σ H _ I h) fun u s1 hh => ?_)
  obtain ⟨x, H1, I1, rx, a, C, d, fs, v, ex, ea, ed, T, hno, l, q⟩ := hh
  subst ex
  obtain rfl : u = Value.ref a := rx
  obtain ⟨oe, od, mA, J, hl, hr⟩ := held_atD I1 ea ed
  obtain ⟨u, hu, ru⟩ := RelO.some_of (v := v) (o := mA n) (by rw [← l]; exact hr n)
  exact HandSPX.exc_get I1.kIn J T.ga T.gg T.exC (PySem.W.findObj_own T.hdC hno rfl (by rw [hl, hu])) (handed_of ru) ⟨v, H1, I1.tok _, ru, q⟩
/-- what is refused, held on, its dict told -/
theorem hold_slotD {σ : L2.St} {i j n : Nat} {x y z : Option V} (hl : σ.length = n) (hj : j < n) (hij : i ≠ j) : (((σ.set i x).set j y).set i z)[j]? = some y := by
  rw [List.getElem?_set_ne hij, List.getElem?_set_self (by rw [List.length_set, hl]; exact hj)]
theorem hold_readsD {K : PySem.W.Frag} {n i j : Nat} {CE D : Addr} {d : Option Addr} {σ : L2.St} {H : Hp} {D' : Ends} (hm : PySem.W.exmOne K (.ref D) (.ref CE) = some true) (hj : j < n) (hij : i ≠ j) (q : ∀ (σ' : L2.St) (a : Addr), σ'[j]? = some (some (.ref a)) → H a = none → D'.nx σ' (upd H a (Held (.ref D) d a))) :
    wHold K n (.ref CE) i j (fun _ _ _ _ => False) D' (.ref D) d σ H := ⟨true, hm, fun _ a na hl => q _ a (hold_slotD hl hj hij) na, fun z => nomatch z⟩
/-! ### Base.__init__(self, ..), the base a class of one's own over ValueError -/
theorem pe_deinit {X : Cx} {B : Str} {CE : Addr} {mc : Value} {e : Expr} {es : List Expr} {ta : TA} {p1 p2 pos : Pos} {pl : Sem Bool} (hg : Gl X B) (hm : X.mg B = some (.ref CE)) (ga : PySem.W.specialIn X.K (.ref CE) "__getattribute__" = some (some (.builtin "type.__getattribute__")))
    (rd : PySem.W.readsIn X.K CE mc = true) (vV : PySem.W.findCls X.K (.ref CE) mc "__init__" = some (.val (.builtin "ValueError.__init__"))) (ha : PA X (e :: es) ta) (hdb : (B == ("__debug__" : Str)) = false := by decide)
    (hc : eval (.Call (.Attribute (.Name B p1) "__init__" p2) (e :: es) [] pos) X.env = (do
      let ov ← eval (.Name B p1) X.env
      standAt p2.atName
      let (f, first) ← holding [ov] (getMethod ov "__init__" pl)
      callWith pos f first (backTo pos (starEach (e :: es) X.env)) (backToKw pos (keywordEach [] X.env))) := by rfl)
    (he : starEach (e :: es) X.env = (false, eval e X.env) :: starEach es X.env := by rfl) (hpl : (backTo pos (starEach es X.env)).any (·.1) = false := by rfl) :
    PE X (.Call (.Attribute (.Name B p1) "__init__" p2) (e :: es) [] pos) (tVeI X.K ta) := by
  refine ⟨fun pins s σ H Q I h => ?_⟩
  refine PySem.W.methodCall_KW (ld_glob I hg hm ?_ hdb) hc
  refine PySem.W.method_cls I.kIn ga (PySem.W.cls_value I.kIn rd vV (by decide +kernel) ?_)
  show wpAny _ _ (callWith pos (Value.builtin "ValueError.__init__") [] (backTo pos (starEach (e :: es) X.env)) []) _ _ _
  refine PyProof.Rows.callWith_method1 (thn (ha.run pos pins _ σ H _ (I.tok _) h) fun us s1 ⟨vs, H1, I1, r1, a, C, ws, ev, hl, T, ea, q⟩ => ?_) he hpl
  subst ev
  cases r1 with
  | @cons _ u0 _ ur ra rw' =>
    obtain rfl : u0 = Value.ref a := ra
    have hlen : ur.length ≤ sizeLine := by
      rw [← Paired.length rw', sizeLine_eq]
      omega
    exact oinit_ok T I1 ea hlen fun s' J => ⟨.non, H1, J, rfl, q⟩
end DK

set_option Elab.async false
set_option linter.all false
set_option maxRecDepth 100000
set_option maxHeartbeats 4000000
namespace DK
open PySem PySem.Spec PyProof.Rows L2
/-! ### what the rows of a text are read to -/
inductive Out where
  | err (k : Nat)
  | ok (r : Int) (c : CM) (g t : Int)
/-- the rows from the one with number k on -/
def scanR (r : Int) : List Str → Nat → CM → Str → Nat ⊕ CM
  | [], _, c, _ => .inr c
  | x :: xs, k, c, last =>
    if xs = [] ∧ x = "" then .inr c else
    match pairOf x with
    | none => .inl k
    | some e => if slt last e.1 = true ∧ ¬ (c.length : Int) = r then scanR r xs (k + 1) (c ++ [e]) e.1 else .inl k
def endR (rows : List Str) : Nat := if rows.getLastD "" = "" then rows.length - 1 else rows.length
def readRows : List Str → Out
  | [] => .err 0
  | h :: rest =>
    match headOf h with
    | none => .err 0
    | some (r, g, t) =>
      match scanR r rest 1 [] "" with
      | .inl k => .err k
      | .inr c => if (h :: rest).getLastD "" = "" ∧ sumC c + (r + 1) * g ≤ t then .ok r c g t else .err (endR (h :: rest))
theorem slt_trans {a b c : Str} (h1 : slt a b = true) (h2 : slt b c = true) : slt a c = true :=
  decide_eq_true (List.lt_trans (of_decide_eq_true h1) (of_decide_eq_true h2))
theorem slt_ne {a b : Str} (h : slt a b = true) : a ≠ b := fun e => by rw [e, slt_irr] at h; cases h
theorem num_bnd {z : Str} {lo hi n : Int} (h : numOf z lo hi = some n) : lo ≤ n ∧ n ≤ hi := by
  unfold numOf at h
  split at h
  · split at h
    · rename_i h2
      cases h
      exact h2
    · cases h
  · cases h
theorem pair_bnd {x : Str} {e : Str × Int} (h : pairOf x = some e) : isName e.1 = true ∧ 1 ≤ e.2 ∧ e.2 ≤ mostN := by
  unfold pairOf at h
  split at h
  · split at h
    · rename_i a b _ ha
      cases hn : numOf b 1 mostN with
      | none => rw [hn] at h; cases h
      | some n =>
        rw [hn] at h
        cases h
        exact ⟨ha, num_bnd hn⟩
    · cases h
  · cases h
theorem head_bnd {x : Str} {r g t : Int} (h : headOf x = some (r, g, t)) : 1 ≤ r ∧ r ≤ 50 ∧ 0 ≤ g ∧ g ≤ mostN ∧ 0 ≤ t ∧ t ≤ mostN := by
  unfold headOf at h
  split at h
  · split at h
    · split at h
      · rename_i h1 h2 h3
        cases h
        have := num_bnd h1
        have := num_bnd h2
        have := num_bnd h3
        refine ⟨?_, ?_, ?_, ?_, ?_, ?_⟩ <;> omega
      · cases h
    · cases h
  · cases h
/-- what has been read so far -/
structure Scan (r : Int) (c : CM) (last : Str) : Prop where
  nm : ∀ e ∈ c, isName e.1 = true
  asc : c.Pairwise fun e f => slt e.1 f.1 = true
  lo : ∀ e ∈ c, 1 ≤ e.2
  hi : ∀ e ∈ c, e.2 ≤ mostN
  ln : (c.length : Int) ≤ r
  top : ∀ e ∈ c, slt e.1 last = true ∨ e.1 = last
theorem scan_nil {r : Int} (h : 1 ≤ r) : Scan r [] "" := ⟨(fun _ h => nomatch h), List.Pairwise.nil, (fun _ h => nomatch h), (fun _ h => nomatch h), (by show ((0 : Nat) : Int) ≤ r; omega), (fun _ h => nomatch h)⟩
theorem Scan.below {r : Int} {c : CM} {last n : Str} (S : Scan r c last) (h : slt last n = true) : ∀ e ∈ c, slt e.1 n = true := fun e he => by
  rcases S.top e he with q | q
  · exact slt_trans q h
  · rw [q]
    exact h
theorem Scan.put {r : Int} {c : CM} {last : Str} {e : Str × Int} (S : Scan r c last) (h : slt last e.1 = true) : putC c e.1 e.2 = c ++ [e] := by
  have hn : ¬ hasC c e.1 = true := fun q => by
    have h1 := (has_iff _ _).mp q
    unfold keysC at h1
    obtain ⟨f, hf, q2⟩ := List.mem_map.mp h1
    exact slt_ne (S.below h f hf) q2
  unfold putC
  rw [if_neg hn]
theorem Scan.step {r : Int} {c : CM} {last x : Str} {e : Str × Int} (S : Scan r c last) (hp : pairOf x = some e) (h : slt last e.1 = true) (hl : ¬ (c.length : Int) = r) : Scan r (c ++ [e]) e.1 := by
  have b := pair_bnd hp
  have mem : ∀ {P : Str × Int → Prop}, (∀ f ∈ c, P f) → P e → ∀ f ∈ c ++ [e], P f := fun h1 h2 f hf => by
    rcases List.mem_append.mp hf with q | q
    · exact h1 f q
    · rw [List.mem_singleton.mp q]
      exact h2
  refine ⟨mem S.nm b.1, List.pairwise_append.mpr ⟨S.asc, List.pairwise_singleton .., fun a ha b' hb => ?_⟩, mem S.lo b.2.1, mem S.hi b.2.2, ?_, mem (fun f hf => .inl (S.below h f hf)) (.inr rfl)⟩
  · rw [List.mem_singleton.mp hb]
    exact S.below h a ha
  · have := S.ln
    rw [List.length_append, List.length_singleton]
    omega
theorem scan_ok {r : Int} : ∀ {xs : List Str} {k : Nat} {c c' : CM} {last : Str}, Scan r c last → scanR r xs k c last = .inr c' → ∃ last', Scan r c' last'
  | [], k, c, c', last, S, h => by
    unfold scanR at h
    cases h
    exact ⟨_, S⟩
  | x :: xs, k, c, c', last, S, h => by
    unfold scanR at h
    split at h
    · cases h
      exact ⟨_, S⟩
    · split at h
      · cases h
      · rename_i e he
        split at h
        · rename_i h2
          exact scan_ok (S.step he h2.1 h2.2) h
        · cases h
theorem read_good {rows : List Str} {r g t : Int} {c : CM} (h : readRows rows = .ok r c g t) : Good r c g t := by
  unfold readRows at h
  split at h
  · cases h
  · split at h
    · cases h
    · rename_i r' g' t' hh
      have b := head_bnd hh
      split at h
      · cases h
      · rename_i c' hs
        split at h
        · rename_i h2
          cases h
          obtain ⟨l, S⟩ := scan_ok (scan_nil b.1) hs
          exact ⟨b.1, b.2.1, S.nm, S.asc, S.lo, S.hi, S.ln, b.2.2.1, b.2.2.2.1, b.2.2.2.2.1, b.2.2.2.2.2, h2.2⟩
        · cases h
theorem rows_ne (z y : Str) : Txt.split z y ≠ [] := by
  unfold Txt.split
  split
  · simp
  · split
    · simp
    · intro e
      have := congrArg List.length e
      rw [length_partsBetween] at this
      cases this
theorem split_size (z y : Str) : (Txt.split z y).length ≤ z.length + 2 := by
  unfold Txt.split
  split
  · simp
  · split
    · simp
    · rw [length_partsBetween]
      have := StrLaws.occ_length_le z y 0 z.length (z.length + 1)
      omega
theorem split_none : Txt.split "" "\n" = [("" : Str)] := by
  have h := TL.split_join (y := "\n") (s := 10) (S := []) (by decide +kernel) (by decide +kernel) (parts := [("" : Str)]) (by simp) fun p hp => by
    rw [List.mem_singleton.mp hp]
    have : cs ("" : Str) = [] := by decide +kernel
    show 10 ∉ cs ("" : Str)
    rw [this]
    exact fun z => nomatch z
  have e : Txt.join "\n" [("" : Str)] = "" := cs_inj (by rw [cs_join]; rfl)
  rw [e] at h
  exact h
theorem head_none : headOf "" = none := by
  unfold headOf
  have h := TL.split_join (y := " ") (s := 32) (S := []) (by decide +kernel) (by decide +kernel) (parts := [("" : Str)]) (by simp) fun p hp => by
    rw [List.mem_singleton.mp hp]
    have : cs ("" : Str) = [] := by decide +kernel
    show 32 ∉ cs ("" : Str)
    rw [this]
    exact fun z => nomatch z
  have e : Txt.join " " [("" : Str)] = "" := cs_inj (by rw [cs_join]; rfl)
  rw [e] at h
  rw [h]
theorem read_head {h : Str} {rest : List Str} (e : headOf h = none) : readRows (h :: rest) = .err 0 := by
  unfold readRows
  dsimp only
  rw [e]
def tailR (r g t : Int) (rows : List Str) : Nat ⊕ CM → Out
  | .inl k => .err k
  | .inr c => if rows.getLastD "" = "" ∧ sumC c + (r + 1) * g ≤ t then .ok r c g t else .err (endR rows)
theorem read_some {h : Str} {rest : List Str} {r g t : Int} (e : headOf h = some (r, g, t)) : readRows (h :: rest) = tailR r g t (h :: rest) (scanR r rest 1 [] "") := by
  unfold readRows
  dsimp only
  rw [e]
  dsimp only
  cases scanR r rest 1 [] "" <;> rfl
end DK

set_option Elab.async false
set_option linter.all false
set_option maxRecDepth 100000
set_option maxHeartbeats 4000000
namespace DK
open PySem PySem.Spec PyProof.Rows L2
open PySem.Builtin PySem.Builtin.Str
/-! ### str.replace(.., .., 1) -/
def rep1 (x y z : Str) : Str :=
  if ((occurrences x y 0 x.length 1).isEmpty || (y.length == 0 && z.length == 0)) = true then x
  else glued z (partsBetween x (occurrences x y 0 x.length 1) y.length)
theorem gives_rep1 (x y z : Str) (t u v k : Tok)
    (hf : ((occurrences x y 0 x.length 1).isEmpty || (y.length == 0 && z.length == 0)) = false →
      (u == 0 || v == 0) = false ∧ (u == v) = false ∧ (y == z) = false ∧ tooLong (x.length + (occurrences x y 0 x.length 1).length * z.length) = false) :
    Gives (Builtin.«str.replace» ⟨[.str x t, .str y u, .str z v, .int 1 k], []⟩) (if ((occurrences x y 0 x.length 1).isEmpty || (y.length == 0 && z.length == 0)) = true then .val (.str x t) else .str (glued z (partsBetween x (occurrences x y 0 x.length 1) y.length))) := by
  show Gives (if ((occurrences x y 0 x.length 1).isEmpty || (y.length == 0 && z.length == 0)) = true then (do rule "str.replace.nothing"; ret (.str x t)) else
          (do let same ← isSame (.str y u) (.str z v)
              if same = true then (do rule "str.replace.old-is-new"; ret (.str x t)) else
              if tooLong (x.length + (occurrences x y 0 x.length 1).length * z.length) = true then unsupported "str.replace:memory" else
              retStr (glued z (partsBetween x (occurrences x y 0 x.length 1) y.length)))) _
  cases hc : ((occurrences x y 0 x.length 1).isEmpty || (y.length == 0 && z.length == 0))
  · obtain ⟨h0, huv, hyz, hl⟩ := hf hc
    rw [isSame_str_other y z u v h0 huv hyz, hl]
    exact .of_eq rfl
  · exact .rule (.of_eq rfl)
theorem rep1_glued_len (x y z : Str) (hb : x.length + (x.length + 1) * z.length ≤ 16777216) : (glued z (partsBetween x (occurrences x y 0 x.length 1) y.length)).length ≤ sizeLine := by
  have h1 := StrLaws.occ_length_le x y 0 x.length 1
  have hy : (glued y (partsBetween x (occurrences x y 0 x.length 1) y.length)).length = x.length := by rw [StrLaws.glued_between_self]
  rw [size_glued, length_partsBetween, Nat.add_sub_cancel] at hy
  rw [size_glued, length_partsBetween, Nat.add_sub_cancel]
  have h2 : (occurrences x y 0 x.length 1).length * z.length ≤ (x.length + 1) * z.length := Nat.mul_le_mul_right _ (by omega)
  rw [sizeLine_eq]
  omega
theorem call_rep1 {prog : Program} {w : World} {A : Around} {E : Value → Shared → Prop} {s : Shared} {x y z : Str} {t u v k : Tok} {Q : Value → Shared → Prop} (hu : u ≠ 0) (hv : v ≠ 0) (huv : u ≠ v) (hyz : (y == z) = false) (hb : x.length + (x.length + 1) * z.length ≤ 16777216)
    (hq : ∀ t' k, Q (.str (rep1 x y z) t') { s with toks := k }) : wpAny (model prog w) A (call (.builtin "str.replace") [.str x t, .str y u, .str z v, .int 1 k]) Q E s := by
  have hl : tooLong (x.length + (occurrences x y 0 x.length 1).length * z.length) = false := by
    have h1 := StrLaws.occ_length_le x y 0 x.length 1
    have h2 : (occurrences x y 0 x.length 1).length * z.length ≤ (x.length + 1) * z.length := Nat.mul_le_mul_right _ (by omega)
    unfold tooLong
    rw [sizeLine_eq]
    exact decide_eq_false (by omega)
  refine call_gives F.slot_str_replace (typeIs_str _ _ _) F.entry_str_replace (F.args_str_replace_4 _ _ _ _)
    (gives_rep1 x y z t u v k fun _ => ⟨by simp [hu, hv], by simp [huv], hyz, hl⟩) ?_
  have hq' := hq
  unfold rep1 at hq'
  cases hc : ((occurrences x y 0 x.length 1).isEmpty || (y.length == 0 && z.length == 0))
  · rw [hc] at hq'
    simp only [Bool.false_eq_true, if_false] at hq' ⊢
    exact ⟨rep1_glued_len x y z hb, hq' _ _⟩
  · rw [hc] at hq'
    simp only [if_true] at hq' ⊢
    exact hq' t s.toks
theorem call_method3 {prog : Program} {w : World} {A : Around} {E : Value → Shared → Prop} {s : Shared} {env : Env} {o e₁ e₂ e₃ : Expr} {name : Str} {apos pos : Pos} {Q : Value → Shared → Prop}
    (hbase : attributeBase o name env (eval o env) = eval o env) (hs : starEach [e₁, e₂, e₃] env = [(false, eval e₁ env), (false, eval e₂ env), (false, eval e₃ env)]) (hline : (apos.endLine == pos.line) = true)
    (h : wpAny (model prog w) A (eval o env) (fun ov s₁ => MethodOnS prog w A E name ov pos [(false, eval e₁ env), (false, eval e₂ env), (false, eval e₃ env)] Q s₁) E s) :
    wpAny (model prog w) A (eval (.Call (.Attribute o name apos) [e₁, e₂, e₃] [] pos) env) Q E s := by
  refine wpAny_Call_method_lateS hbase (by rw [hs]; rfl) hline ?_
  rw [hs]; exact h
def tRep1 (to : TE) (y z : Str) : TE := fun σ H Q => to σ H fun v H1 => ∃ x, v = .str x ∧ x.length + (x.length + 1) * z.length ≤ 16777216 ∧ Q (.str (rep1 x y z)) H1
section
variable {X : Cx} {o e f : Expr} {te tf : TE} {to : TE} {y z : Str} {j k l : Nat} {c0 c1 c2 apos pos p p' : Pos}
theorem pet_rep1 (ho : PE X o to) (hyz : (y == z) = false := by decide)
    (hst : starEach [.Constant (.str y) j c0, .Constant (.str z) k c1, .Constant (.int 1) l c2] X.env = [(false, eval (.Constant (.str y) j c0) X.env), (false, eval (.Constant (.str z) k c1) X.env), (false, eval (.Constant (.int 1) l c2) X.env)] := by rfl)
    (hbase : attributeBase o "replace" X.env (eval o X.env) = eval o X.env := by rfl) (hline : (apos.endLine == pos.line) = true := by rfl) :
    PET X (.Call (.Attribute o "replace" apos) [.Constant (.str y) j c0, .Constant (.str z) k c1, .Constant (.int 1) l c2] [] pos) (tRep1 to y z) := by
  intro pins s σ H Q h0 I h
  refine call_method3 hbase hst hline (wpAny_mono (PySem.wpAny_toks (ho.run pins s σ H _ I h)) (fun v s1 q => ?_) fun _ _ z => z.2)
  obtain ⟨hk, v', H1, I1, r1, x, e1, hb, q⟩ := q
  subst e1
  obtain ⟨tx, e2⟩ := r1
  subst e2
  refine ⟨"str", _, PySem.F.plainAttrs_str, PySem.F.slot_str_replace, PySem.F.type_str_replace, typeIs_str _ _ _, (fun _ e => nomatch e), Calls.callWith_builtin rfl (Calls.evalArgs_plain (Calls.spliced_cons ?_))⟩
  refine Calls.Constant_str (Calls.spliced_cons (Calls.Constant_str (Calls.spliced_cons (wpAny_Constant_int (Calls.spliced_nil ?_)))))
  exact call_rep1 (by show s1.toks ≠ 0; omega) (by show s1.toks + 1 ≠ 0; omega) (by show s1.toks ≠ s1.toks + 1; omega) hyz hb fun t' k => ⟨.str (rep1 x y z), H1, I1.tok k, ⟨t', rfl⟩, q⟩
theorem pst_set {i : Nat} {x : Str} {e : Expr} {te : TE} {pos' : Pos} (hN : X.N.Nodup) (hi : X.N[i]? = some x) (hx : Loc X.env.scope x) (he : PET X e te) (hs : swapsWith e (some (.Name x pos')) pos.line X.env = pure false := by rfl) (hf : X.fn x = true ∨ X.env.scope.names.lookup x = some .local := by first | exact .inl rfl | exact .inr rfl | assumption) :
    PST X (.Assign [.Name x pos'] e pos) (tAsg te (gName i)) := by
  intro pins s σ H D h0 I h
  refine wpAny_Assign_Name (thn (he pins s σ H _ h0 I h) fun v s1 ⟨y, H1, I1, r1, q1⟩ => ?_) hs
  exact store_ok I1 hN hi hx r1 (fun s2 I2 => ⟨_, H1, I2, q1⟩) hf
theorem pet_ix {a b : Expr} {ta tb : TE} {r : R2} (hr : IxR X r) (ha : PET X a ta) (hb : PE X b tb) (hs : PlainIx b) : PET X (.Subscript a b pos) (tOp r ta tb) := by
  intro pins s σ H Q h0 I h
  refine Subscript_ ?_
  refine wpAny_mono (ha pins s σ H _ h0 I h) (fun v s1 hh => ?_) fun _ _ z => z
  obtain ⟨x, H1, I1, rx, h1⟩ := hh
  refine wpAny_mono (hb.run pins s1 σ H1 _ I1 h1) (fun u s2 hh => ?_) fun _ _ z => z
  obtain ⟨y, H2, I2, ry, q⟩ := hh
  exact hr a b pins s2 σ H2 x y v u Q I2 rx ry q (hs _ _)
end
theorem rep1_app {y : Str} {s : Nat} {S : List Nat} (ey : cs y = s :: S) {a b : Str} (h : s ∉ cs a) (z : Str) : rep1 (a ++ y ++ b) y z = a ++ z ++ b := by
  have hp := TL.partition_app (b := b) ey h
  unfold Txt.partition at hp
  have h1 := StrLaws.occ_length_le (a ++ y ++ b) y 0 (a ++ y ++ b).length 1
  have yl : y.length = S.length + 1 := by rw [cs_len, ey]; rfl
  cases ho : occurrences (a ++ y ++ b) y 0 (a ++ y ++ b).length 1 with
  | nil =>
    rw [ho] at hp
    have := congrArg (fun p : Str × Str × Str => p.2.1) hp
    dsimp only at this
    rw [← this] at ey
    cases ey
  | cons i r =>
    rw [ho] at hp h1
    cases r with
    | cons _ _ => exact absurd h1 (by simp)
    | nil =>
      dsimp only at hp
      have e1 := (Prod.mk.inj hp).1
      have e2 := (Prod.mk.inj (Prod.mk.inj hp).2).2
      unfold rep1
      rw [ho, if_neg]
      · show (⟨(strSub _ 0 i).cps ++ z.cps ++ (strSub _ (i + y.length) _).cps⟩ : Str) = _
        rw [e1, e2]
        rfl
      · rw [yl]
        simp
section
variable {X : Cx} {st : Stmt} {rest : List Stmt} {t u : TS}
/-- a statement behind which a token is out -/
def PSK (X : Cx) (st : Stmt) (t : TS) : Prop :=
  ∀ (pins : List (Addr × Obj)) (s : Shared) (σ : L2.St) (H : Hp) (D : Ends), Inv X pins σ H s → t D σ H → wpAny (model X.prog X.w) X.A (exec st X.env) (fun f s' => 1 ≤ s'.toks ∧ SP X pins D f s') X.xe s
theorem pss_key (h1 : PSK X st t) (h2 : PSsT X rest u) : PSs X (st :: rest) (tSeq t u) := by
  refine ⟨fun pins s σ H D I h => ?_⟩
  refine wpAny_execs_cons (wpAny_mono (h1 pins s σ H { D with nx := u D } I h) (fun f s1 q => ?_) fun _ _ x => x)
  obtain ⟨hk, q⟩ := q
  cases f with
  | next =>
    obtain ⟨σ', H', I', q⟩ := q
    exact h2 pins s1 σ' H' D hk I' q
  | ret v => exact q
  | brk => exact q
  | cont => exact q
theorem psk_ifC {op : CmpOp} {r : R2} {a : Expr} {n : Int} {j : Nat} {c0 p1 p2 : Pos} {ta : TE} {A B : List Stmt} (ho : OpR X (compareOp op) r) (ha : PE X a ta) (hA : PSs X A t) (hB : PSs X B u) (hm : behindInMarks op (.Constant (.int n) j c0) = false := by exact nomark _) :
    PSK X (.If (.Compare a [op] [.Constant (.int n) j c0] p1) A B p2) (tIfS (tTest (tOp r ta (tC (.int n)))) t u) := by
  intro pins s σ H D I h
  refine wpAny_If (wpAny_isTrue_Compare1 (thn (ha.run pins s σ H _ I h) fun v s1 ⟨x, H1, I1, r1, q1⟩ => wpAny_Constant_int ?_) hm)
  refine wpAny_with_toks (n := 1) (by show 1 ≤ s1.toks + 1; omega) (wpAny_mono (ho pins { s1 with toks := s1.toks + 1 } σ H1 x (.int n) v (.int n s1.toks) _ (I1.tok _) r1 ⟨_, rfl⟩ q1) (fun c s3 hh hk => ?_) fun _ _ z _ => z)
  obtain ⟨z, H3, I3, r3, k, e, q3⟩ := hh
  subst e
  cases r3
  refine wpAny_truthy_bool ?_
  cases k with
  | true => exact wpAny_mono (wpAny_toks_of hk (hA.run pins s3 σ H3 D I3 q3)) (fun _ _ q => q) fun _ _ q => q.2
  | false => exact wpAny_mono (wpAny_toks_of hk (hB.run pins s3 σ H3 D I3 q3)) (fun _ _ q => q) fun _ _ q => q.2
end
end DK

set_option Elab.async false
set_option linter.all false
set_option maxRecDepth 100000
set_option maxHeartbeats 4000000
namespace DK
open PySem PySem.Spec PyProof.Rows L2
/-! ### reading values and lists by parts -/
def Val (σ : L2.St) (H : Hp) (te : TE) (v : V) : Prop := ∀ H' : Hp, Ex H H' → ∀ Q : VK, (∀ H2 : Hp, Ex H' H2 → Q v H2) → te σ H' Q
def Vls (σ : L2.St) (H : Hp) (ta : TA) (vs : List V) : Prop := ∀ H' : Hp, Ex H H' → ∀ Q : List V → Hp → Prop, (∀ H2 : Hp, Ex H' H2 → Q vs H2) → ta σ H' Q
def Lst (σ : L2.St) (H : Hp) (te : TE) (xs : List V) : Prop := ∀ H' : Hp, Ex H H' → ∀ Q : VK, (∀ (H2 : Hp) (l : Addr), Ex H' H2 → H2 l = some (.lst xs) → Q (.ref l) H2) → te σ H' Q
section
variable {K : PySem.W.Frag} {σ : L2.St} {H : Hp} {ta tb te : TE} {xs ys : List V} {v : V}
theorem Ex.refl (H : Hp) : Ex H H := fun _ _ e => e
theorem val_pv {i : Nat} (h : σ[i]? = some (some v)) : Val σ H (tVar i) v := fun H' _ Q q => ⟨v, h, q H' (Ex.refl _)⟩
theorem val_c : Val σ H (tC v) v := fun H' _ Q q => q H' (Ex.refl _)
theorem vls_nil : Vls σ H tNil [] := fun H' _ Q q => q H' (Ex.refl _)
theorem vls_cons {t : TA} {vs : List V} (ha : Val σ H ta v) (h : Vls σ H t vs) : Vls σ H (tCons ta t) (v :: vs) := fun H' e Q q => ha H' e _ fun H2 e2 => h H2 (e.trans e2) _ fun H3 e3 => q H3 (e2.trans e3)
theorem val_addS {a b : Str} (ha : Val σ H ta (.str a)) (hb : Val σ H tb (.str b)) (hl : a.length + b.length ≤ sizeLine) : Val σ H (tOp (fun x y H Q => ∃ i j, x = .str i ∧ y = .str j ∧ i.length + j.length ≤ sizeLine ∧ Q (.str (i ++ j)) H) ta tb) (.str (a ++ b)) :=
  fun H' e Q q => ha H' e _ fun H2 e2 => hb H2 (e.trans e2) _ fun H3 e3 => ⟨a, b, rfl, rfl, hl, q H3 (e2.trans e3)⟩
theorem val_i0 {g : Int → Int → V} {a b : Int} (ha : Val σ H ta (.int a)) (hb : Val σ H tb (.int b)) : Val σ H (tOp (rI0 g) ta tb) (g a b) :=
  fun H' e Q q => ha H' e _ fun H2 e2 => hb H2 (e.trans e2) _ fun H3 e3 => ⟨a, b, rfl, rfl, q H3 (e2.trans e3)⟩
theorem val_iC {C : Int → Int → Prop} {g : Int → Int → V} {a b : Int} (ha : Val σ H ta (.int a)) (hb : Val σ H tb (.int b)) (hc : C a b) : Val σ H (tOp (rI C g) ta tb) (g a b) :=
  fun H' e Q q => ha H' e _ fun H2 e2 => hb H2 (e.trans e2) _ fun H3 e3 => ⟨a, b, rfl, rfl, hc, q H3 (e2.trans e3)⟩
theorem val_un {g : Int → V} {a : Int} (ha : Val σ H ta (.int a)) : Val σ H (tUn (rU g) ta) (g a) := fun H' e Q q => ha H' e _ fun H2 e2 => ⟨a, rfl, q H2 e2⟩
theorem val_eq {a b : V} (ha : Val σ H ta a) (hb : Val σ H tb b) (hs : scal a b = true) : Val σ H (tOp rEq ta tb) (.bl (decide (a = b))) := fun H' e Q q => ha H' e _ fun H2 e2 => hb H2 (e.trans e2) _ fun H3 e3 => ⟨hs, q H3 (e2.trans e3)⟩
theorem val_int1 {b : Bool} (ha : Val σ H ta (.bl b)) : Val σ H (tCB (fun xs H Q => (∃ i, xs = [.int i] ∧ Q (.int i) H) ∨ ∃ k, xs = [.bl k] ∧ Q (.int (if k then 1 else 0)) H) (tCons ta tNil)) (.int (if b then 1 else 0)) :=
  fun H' e Q q => ha H' e _ fun H2 e2 => .inr ⟨b, rfl, q H2 e2⟩
theorem val_len (ha : Lst σ H ta xs) : Val σ H (tCB (fun ys H Q => ∃ p zs, ys = [.ref p] ∧ (SqL K H p zs ∨ SqT K H p zs) ∧ Q (.int zs.length) H) (tCons ta tNil)) (.int xs.length) :=
  fun H' e Q q => ha H' e _ fun H2 l e2 hl => ⟨l, xs, rfl, .inl (SqL.of hl), q H2 e2⟩
theorem val_pick {j : Nat} (hl : Lst σ H ta xs) (hi : Val σ H tb (.int (j : Int))) (h : xs[j]? = some v) : Val σ H (tOp (rIxL K) ta tb) v :=
  fun H' e Q q => hl H' e _ fun H2 l e2 el => hi H2 (e.trans e2) _ fun H3 e3 => ⟨l, xs, j, v, rfl, rfl, SqL.of (e3 _ _ el), atI_nat h, q H3 (e2.trans e3)⟩
theorem val_rep {y z x : Str} (ha : Val σ H ta (.str x)) (hl : x.length + (x.length + 1) * z.length ≤ 16777216) : Val σ H (tRep1 ta y z) (.str (rep1 x y z)) := fun H' e Q q => ha H' e _ fun H2 e2 => ⟨x, rfl, hl, q H2 e2⟩
theorem val_upper {x : Str} (ha : Val σ H ta (.str x)) (hl : x.length ≤ 5592405) : Val σ H (tM0 (fun x xs H Q => ∃ a, x = .str a ∧ xs = [] ∧ a.length ≤ 5592405 ∧ Q (.str (Txt.upper a)) H) ta) (.str (Txt.upper x)) := fun H' e Q q => ha H' e _ fun H2 e2 => ⟨⟨x, rfl⟩, x, rfl, rfl, hl, q H2 e2⟩
theorem val_mulS {z : Str} {n : Int} (ha : Val σ H ta (.str z)) (hb : Val σ H tb (.int n)) (ok : MulOk z n) : Val σ H (tOp rMulS ta tb) (.str (PySem.Txt.mul z n)) := fun H' e Q q => ha H' e _ fun H2 e2 => hb H2 (e.trans e2) _ fun H3 e3 => ⟨z, n, rfl, rfl, ok, q H3 (e2.trans e3)⟩
theorem val_join {a : Str} {zs : List Str} (ha : Val σ H ta (.str a)) (hb : Lst σ H tb (zs.map V.str)) (hl : (zs.map (·.length)).sum + zs.length * a.length ≤ 16777216) : Val σ H (tBM K "str" (fun x xs H Q => ∃ a p, ∃ ys : List Str, x = .str a ∧ xs = [.ref p] ∧ (SqL K H p (ys.map V.str) ∨ SqT K H p (ys.map V.str)) ∧
    (ys.map (·.length)).sum + ys.length * a.length ≤ 16777216 ∧ Q (.str (Txt.join a ys)) H) ta (tCons tb tNil)) (.str (Txt.join a zs)) :=
  fun H' e Q q => ha H' e _ fun H2 e2 => ⟨rfl, hb H2 (e.trans e2) _ fun H3 l e3 el => ⟨a, l, zs, rfl, rfl, .inl (SqL.of el), hl, q H3 (e2.trans e3)⟩⟩
theorem lst_pv {i : Nat} {l : Addr} (h : σ[i]? = some (some (.ref l))) (hl : H l = some (.lst xs)) : Lst σ H (tVar i) xs := fun H' e Q q => ⟨_, h, q H' l (Ex.refl _) (e _ _ hl)⟩
theorem lst_lit {t : TA} (h : Vls σ H t xs) (hl : xs.length ≤ sizeLine) : Lst σ H (tLst t) xs := fun H' e Q q => h H' e _ fun H2 e2 => ⟨hl, fun p hp => q _ p (e2.trans (Evl.Ex.new hp)) upd_same⟩
theorem lst_cat (ha : Lst σ H ta xs) (hb : Lst σ H tb ys) (hl : xs.length + ys.length ≤ sizeLine) : Lst σ H (tOp rCat ta tb) (xs ++ ys) :=
  fun H' e Q q => ha H' e _ fun H2 l e2 el => hb H2 (e.trans e2) _ fun H3 m e3 em => ⟨l, m, xs, ys, rfl, rfl, e3 _ _ el, em, hl, fun p hp => q _ p ((e2.trans e3).trans (Evl.Ex.new hp)) upd_same⟩
theorem lst_rev (ha : Lst σ H ta xs) : Lst σ H (tRevL K ta) xs.reverse := fun H' e Q q => ha H' e _ fun H2 l e2 el => ⟨l, xs, rfl, SqL.of el, fun p hp => q _ p (e2.trans (Evl.Ex.new hp)) upd_same⟩
theorem lst_split {z y : Str} (ha : Val σ H ta (.str z)) (hb : Val σ H tb (.str y)) (hy : (y.length == 0) = false) (hl : z.length + 2 ≤ sizeLine) : Lst σ H (tM1 (fun x xs H Q => ∃ a b, x = .str a ∧ xs = [.str b] ∧ (b.length == 0) = false ∧ a.length + 2 ≤ sizeLine ∧ rNewStrs (Txt.split a b) H Q) ta tb) ((Txt.split z y).map V.str) :=
  fun H' e Q q => ha H' e _ fun H2 e2 => ⟨⟨z, rfl⟩, hb H2 (e.trans e2) _ fun H3 e3 => ⟨z, y, rfl, rfl, hy, hl, fun p hp => q _ p ((e2.trans e3).trans (Evl.Ex.new hp)) upd_same⟩⟩
theorem cut_toS (zs : List Str) (k : Nat) : cutV (zs.map V.str) none (some (k : Int)) = (zs.take k).map V.str := by
  unfold cutV
  rw [HT.sIx_none, HT.sIx_nat, List.drop_zero, Nat.sub_zero, List.length_map, List.map_take]
  by_cases h : k ≤ zs.length
  · rw [Nat.min_eq_left h]
  · rw [Nat.min_eq_right (by omega), List.take_of_length_le (by rw [List.length_map]; exact Nat.le_refl _), List.take_of_length_le (by rw [List.length_map]; omega)]
theorem cut_fromS (zs : List Str) (k : Nat) : cutV (zs.map V.str) (some (k : Int)) none = (zs.drop k).map V.str := by
  unfold cutV
  rw [HT.sIx_none, HT.sIx_nat, List.length_map, List.map_drop]
  by_cases h : k ≤ zs.length
  · rw [Nat.min_eq_left h, List.take_of_length_le (by rw [List.length_drop, List.length_map]; exact Nat.le_refl _)]
  · rw [Nat.min_eq_right (by omega), Nat.sub_self, List.take_zero, List.drop_eq_nil_of_le (by rw [List.length_map]; omega)]
theorem cut_midS (zs : List Str) (k m : Nat) (h : k ≤ zs.length) : cutV (zs.map V.str) (some (k : Int)) (some ((k + m : Nat) : Int)) = ((zs.drop k).take m).map V.str := by
  unfold cutV
  rw [HT.sIx_nat, HT.sIx_nat, List.length_map, Nat.min_eq_left h, List.map_take, List.map_drop]
  by_cases h2 : k + m ≤ zs.length
  · rw [Nat.min_eq_left h2, Nat.add_sub_cancel_left]
  · rw [Nat.min_eq_right (by omega), List.take_of_length_le (by rw [List.length_drop, List.length_map]; exact Nat.le_refl _), List.take_of_length_le (by rw [List.length_drop, List.length_map]; omega)]
theorem cut_initS (zs : List Str) : cutV (zs.map V.str) none (some (-1)) = zs.dropLast.map V.str := by
  unfold cutV
  rw [HT.sIx_none, List.drop_zero, Nat.sub_zero, List.length_map]
  have e : HT.sIx zs.length zs.length (some (-1)) = zs.length - 1 := by
    show (if (-1 : Int) < 0 then ((-1 : Int) + (zs.length : Int)).toNat else min (-1 : Int).toNat zs.length) = _
    rw [if_pos (by decide)]
    omega
  rw [e, List.dropLast_eq_take, List.map_take]
variable {zs : List Str}
theorem lst_to {k : Nat} {t : TE} (ha : Lst σ H ta (zs.map V.str)) (hk : Val σ H t (.int (k : Int))) : Lst σ H (tSl (rSlL K) ta tNoPart (tPart t)) ((zs.take k).map V.str) :=
  fun H' e Q q => ha H' e _ fun H2 l e2 el => hk H2 (e.trans e2) _ fun H3 e3 => ⟨_, rfl, l, _, rfl, SqL.of (e3 _ _ el), fun p hp => q _ p ((e2.trans e3).trans (Evl.Ex.new hp)) (by rw [upd_same, cut_toS])⟩
theorem lst_from {k : Nat} {t : TE} (ha : Lst σ H ta (zs.map V.str)) (hk : Val σ H t (.int (k : Int))) : Lst σ H (tSl (rSlL K) ta (tPart t) tNoPart) ((zs.drop k).map V.str) :=
  fun H' e Q q => ha H' e _ fun H2 l e2 el => hk H2 (e.trans e2) _ fun H3 e3 => ⟨_, rfl, l, _, rfl, SqL.of (e3 _ _ el), fun p hp => q _ p ((e2.trans e3).trans (Evl.Ex.new hp)) (by rw [upd_same, cut_fromS])⟩
theorem lst_mid {k m : Nat} {t u : TE} (ha : Lst σ H ta (zs.map V.str)) (hk : Val σ H t (.int (k : Int))) (hm : Val σ H u (.int ((k + m : Nat) : Int))) (h : k ≤ zs.length) : Lst σ H (tSl (rSlL K) ta (tPart t) (tPart u)) (((zs.drop k).take m).map V.str) :=
  fun H' e Q q => ha H' e _ fun H2 l e2 el => hk H2 (e.trans e2) _ fun H3 e3 => ⟨_, rfl, hm H3 ((e.trans e2).trans e3) _ fun H4 e4 => ⟨_, rfl, l, _, rfl, SqL.of (e4 _ _ (e3 _ _ el)), fun p hp => q _ p (((e2.trans e3).trans e4).trans (Evl.Ex.new hp)) (by rw [upd_same, cut_midS _ _ _ h])⟩⟩
theorem lst_init {t : TE} (ha : Lst σ H ta (zs.map V.str)) (hk : Val σ H t (.int (-1))) : Lst σ H (tSl (rSlL K) ta tNoPart (tPart t)) (zs.dropLast.map V.str) :=
  fun H' e Q q => ha H' e _ fun H2 l e2 el => hk H2 (e.trans e2) _ fun H3 e3 => ⟨_, rfl, l, _, rfl, SqL.of (e3 _ _ el), fun p hp => q _ p ((e2.trans e3).trans (Evl.Ex.new hp)) (by rw [upd_same, cut_initS])⟩
/-- return xs, v -/
theorem rd_ret2 {D : Ends} (ha : Lst σ H ta xs) (hb : Val σ H tb v) (q : ∀ (H2 : Hp) (l tp : Addr), Ex H H2 → H2 l = some (.lst xs) → H2 tp = some (.tup [.ref l, v]) → D.rt (.ref tp) H2) : tRet (tTup (tCons ta (tCons tb tNil))) D σ H :=
  ha H (Ex.refl _) _ fun H2 l e2 el => hb H2 e2 _ fun H3 e3 => ⟨by show 2 ≤ sizeLine; rw [sizeLine_eq]; decide, fun p hp => q _ l p ((e2.trans e3).trans (Evl.Ex.new hp)) (by rw [upd_ne (ne_of_none (e3 _ _ el) hp)]; exact e3 _ _ el) upd_same⟩
theorem Val.to {te : TE} {v v' : V} (h : Val σ H te v) (e : v = v') : Val σ H te v' := e ▸ h
theorem Lst.to {xs ys : List V} (h : Lst σ H te xs) (e : xs = ys) : Lst σ H te ys := e ▸ h
end
/-! ### rows spoilt -/
def great70 : Str := "1" ++ PySem.Txt.mul "0" 70 ++ "1"
def chgA (row : Str) : List Str := [row ++ " ", " " ++ row, rep1 row " " "  ", row ++ "0 1", rep1 row " " " 0"]
def chgB (row : Str) : List Str := [rep1 row " " "\t", Txt.upper row, row ++ ".", (Txt.split row " ").headD "", rep1 row " " " -"]
def chg (row : Str) (way : Nat) (long : Str) : Str :=
  if way = 14 then Txt.join " " ([long] ++ (Txt.split row " ").drop 1)
  else if way = 13 then Txt.join " " ((Txt.split row " ").dropLast ++ [great70])
  else if 7 < way then (chgB row).getD ((way - 8) % 5) "" else (chgA row).getD ((way - 3) % 5) ""
def spoilt (rows : List Str) (at' way : Nat) (long : Str) : List Str × Int :=
  if way = 0 then (rows.take at' ++ [("x" : Str)] ++ rows.drop at', (at' : Int))
  else if way = 1 then (rows.take at' ++ [rows.getD at' ""] ++ rows.drop at', if at' = 0 then 1 else (at' : Int) + 1)
  else if way = 2 then (rows.take at' ++ [("" : Str)] ++ rows.drop at', (at' : Int))
  else if way = 15 then (rows.take at' ++ rows.drop (at' + 1), if at' = 0 then 0 else -1)
  else if way = 16 then (rows.take at' ++ ((rows.drop at').take 2).reverse ++ rows.drop (at' + 2), if at' + 1 = rows.length then -1 else if at' = 0 then 0 else (at' : Int) + 1)
  else if way = 17 then (rows.take at' ++ [Txt.join " " ((Txt.split (rows.getD at' "") " ").take 1 ++ [("0" : Str)] ++ (Txt.split (rows.getD at' "") " ").drop 2)] ++ rows.drop (at' + 1), (at' : Int))
  else if way = 18 then ([Txt.join " " ([("desk" : Str), "51"] ++ (Txt.split (rows.getD 0 "") " ").drop 2)] ++ rows.drop 1, 0)
  else (rows.take at' ++ [chg (rows.getD at' "") way long] ++ rows.drop (at' + 1), (at' : Int))
end DK

set_option Elab.async false
set_option linter.all false
set_option maxRecDepth 100000
set_option maxHeartbeats 4000000
namespace DK
open PySem PySem.Spec PyProof.Rows L2
/-! ### rows as words -/
def headW (ws : List Str) : Option (Int × Int × Int) :=
  match ws with
  | [a, b, c, d] => if a = ("desk" : Str) then
      match numOf b 1 50, numOf c 0 mostN, numOf d 0 mostN with
      | some r, some g, some t => some (r, g, t)
      | _, _, _ => none
    else none
  | _ => none
def pairW (ws : List Str) : Option (Str × Int) :=
  match ws with
  | [a, b] => if isName a = true then (numOf b 1 mostN).map fun n => (a, n) else none
  | _ => none
theorem head_w (z : Str) : headOf z = headW (Txt.split z " ") := rfl
theorem pair_w (z : Str) : pairOf z = pairW (Txt.split z " ") := rfl
/-- no blank, no line end, ascii -/
def WdOk (w : Str) : Prop := ∀ c ∈ cs w, c ≠ 32 ∧ c ≠ 10 ∧ c < 128
theorem cs_sp : cs (" " : Str) = [32] := by decide +kernel
theorem split_words {ws : List Str} (hn : ws ≠ []) (h : ∀ w ∈ ws, WdOk w) : Txt.split (Txt.join " " ws) " " = ws :=
  TL.split_join (s := 32) (S := []) (by decide +kernel) (by decide +kernel) hn fun p hp hm => (h p hp 32 hm).1 rfl
theorem joinL_mem {S : List Nat} {c : Nat} : ∀ {ps : List (List Nat)}, c ∈ TL.joinL S ps → c ∈ S ∨ ∃ p ∈ ps, c ∈ p
  | [], h => nomatch h
  | [a], h => .inr ⟨a, List.mem_singleton.mpr rfl, h⟩
  | a :: b :: r, h => by
    have h : c ∈ a ++ (S ++ TL.joinL S (b :: r)) := h
    rcases List.mem_append.mp h with h | h
    · exact .inr ⟨a, List.mem_cons_self .., h⟩
    · rcases List.mem_append.mp h with h | h
      · exact .inl h
      · rcases joinL_mem h with h | ⟨p, hp, h⟩
        · exact .inl h
        · exact .inr ⟨p, List.mem_cons_of_mem _ hp, h⟩
theorem words_mem {ws : List Str} {c : Nat} (h : c ∈ cs (Txt.join " " ws)) : c = 32 ∨ ∃ w ∈ ws, c ∈ cs w := by
  rw [cs_join, cs_sp] at h
  rcases joinL_mem h with h | ⟨p, hp, h⟩
  · exact .inl (List.mem_singleton.mp h)
  · obtain ⟨w, hw, rfl⟩ := List.mem_map.mp hp
    exact .inr ⟨w, hw, h⟩
theorem words_free {ws : List Str} (h : ∀ w ∈ ws, WdOk w) : 10 ∉ cs (Txt.join " " ws) := fun hm => by
  rcases words_mem hm with e | ⟨w, hw, hc⟩
  · cases e
  · exact (h w hw 10 hc).2.1 rfl
theorem join_two (y a b : Str) (r : List Str) : Txt.join y (a :: b :: r) = a ++ (y ++ Txt.join y (b :: r)) := cs_inj (by
  rw [cs_join, cs_app, cs_app, cs_join]
  rfl)
theorem join_pre (y a w : Str) (r : List Str) : Txt.join y ((a ++ w) :: r) = a ++ Txt.join y (w :: r) := cs_inj (by
  rw [cs_join, cs_app, cs_join]
  cases r with
  | nil => exact cs_app a w
  | cons b r =>
    show cs (a ++ w) ++ _ = cs a ++ (cs w ++ _)
    rw [cs_app, List.append_assoc])
theorem join_post (y a w : Str) : ∀ ws : List Str, Txt.join y (ws ++ [w ++ a]) = Txt.join y (ws ++ [w]) ++ a
  | [] => cs_inj (by
    rw [cs_join, cs_app, cs_join]
    exact cs_app w a)
  | [b] => by
    show Txt.join y [b, w ++ a] = Txt.join y [b, w] ++ a
    rw [join_two, join_two, show ([w ++ a] : List Str) = [] ++ [w ++ a] from rfl, join_post y a w [], app_assoc, app_assoc]
    rfl
  | b :: c :: ws => by
    show Txt.join y (b :: c :: (ws ++ [w ++ a])) = Txt.join y (b :: c :: (ws ++ [w])) ++ a
    rw [join_two, join_two, show c :: (ws ++ [w ++ a]) = (c :: ws) ++ [w ++ a] from rfl, join_post y a w (c :: ws), app_assoc, app_assoc]
    rfl
/-! ### no numbers -/
theorem num_no_digit {z : Str} {lo hi : Int} {c : Nat} (hc : c ∈ cs z) (hd : c < 48 ∨ 57 < c) : numOf z lo hi = none := by
  unfold numOf
  rw [if_neg]
  intro h
  rw [Bool.and_eq_true, Bool.and_eq_true] at h
  have := of_decide_eq_true (List.all_eq_true.mp h.1.2 c hc)
  omega
theorem num_zero {z : Str} {lo hi : Int} (h0 : (cs z)[0]? = some 48) (hl : 1 < z.length) : numOf z lo hi = none := by
  unfold numOf
  rw [if_neg]
  intro h
  rw [Bool.and_eq_true] at h
  rw [decide_eq_true h0, decide_eq_true hl] at h
  exact absurd h.2 (by decide)
theorem num_long {z : Str} {lo hi : Int} (hl : 73 ≤ z.length) : numOf z lo hi = none := by
  unfold numOf
  rw [if_neg]
  intro h
  rw [Bool.and_eq_true, Bool.and_eq_true] at h
  have := of_decide_eq_true h.1.1
  omega
theorem num_out {z : Str} {lo hi : Int} (h : ¬ (lo ≤ ((NumText.digitsVal (cs z) : Nat) : Int) ∧ ((NumText.digitsVal (cs z) : Nat) : Int) ≤ hi)) : numOf z lo hi = none := by
  unfold numOf
  split <;> first | rfl | rw [if_neg h]
/-! ### no head, no pair -/
/-- the words are no head (hd), or no pair -/
def noneW (hd : Bool) (ws : List Str) : Prop := if hd = true then headW ws = none else pairW ws = none
theorem none_len {hd : Bool} {ws : List Str} (h : ws.length ≠ if hd = true then 4 else 2) : noneW hd ws := by
  cases hd with
  | true =>
    show headW ws = none
    match ws, h with
    | [], _ => rfl
    | [_], _ => rfl
    | [_, _], _ => rfl
    | [_, _, _], _ => rfl
    | [_, _, _, _], h => exact absurd rfl h
    | _ :: _ :: _ :: _ :: _ :: _, _ => rfl
  | false =>
    show pairW ws = none
    match ws, h with
    | [], _ => rfl
    | [_], _ => rfl
    | [_, _], h => exact absurd rfl h
    | _ :: _ :: _ :: _, _ => rfl
theorem none_one {hd : Bool} {w0 : Str} {ws : List Str} (h1 : w0 ≠ "desk") (h2 : isName w0 = false) : noneW hd (w0 :: ws) := by
  by_cases hl : (w0 :: ws).length = if hd = true then 4 else 2
  · cases hd with
    | true =>
      show headW (w0 :: ws) = none
      match ws, hl with
      | [b, c, d], _ => exact if_neg h1
    | false =>
      show pairW (w0 :: ws) = none
      match ws, hl with
      | [b], _ => exact if_neg (by rw [h2]; exact Bool.false_ne_true)
  · exact none_len hl
theorem none_two {hd : Bool} {w0 w1 : Str} {ws : List Str} (h : ∀ hi : Int, numOf w1 1 hi = none) : noneW hd (w0 :: w1 :: ws) := by
  by_cases hl : (w0 :: w1 :: ws).length = if hd = true then 4 else 2
  · cases hd with
    | true =>
      show headW (w0 :: w1 :: ws) = none
      match ws, hl with
      | [c, d], _ =>
        show (if w0 = ("desk" : Str) then _ else none) = none
        split
        · rw [h 50]
        · rfl
    | false =>
      show pairW (w0 :: w1 :: ws) = none
      match ws, hl with
      | [], _ =>
        show (if isName w0 = true then (numOf w1 1 mostN).map _ else none) = none
        rw [h mostN]
        split <;> rfl
  · exact none_len hl
theorem none_last {hd : Bool} {w : Str} {ws : List Str} (h : ∀ lo : Int, numOf w lo mostN = none) : noneW hd (ws ++ [w]) := by
  by_cases hl : (ws ++ [w]).length = if hd = true then 4 else 2
  · rw [List.length_append, List.length_singleton] at hl
    cases hd with
    | true =>
      match ws, hl with
      | [a, b, c], _ =>
        show (if a = ("desk" : Str) then _ else none) = none
        split
        · rw [h 0]
          cases numOf b 1 50 <;> cases numOf c 0 mostN <;> rfl
        · rfl
    | false =>
      match ws, hl with
      | [a], _ =>
        show (if isName a = true then (numOf w 1 mostN).map _ else none) = none
        rw [h 1]
        split <;> rfl
  · exact none_len hl
/-! ### upper -/
theorem upper_ok {w : Str} (h : WdOk w) : WdOk (Txt.upper w) ∧ cs (Txt.upper w) = (cs w).map up1 := by
  have e : cs (Txt.upper w) = (cs w).map up1 := by
    rw [PyProof.Rows.upper_ascii (x := w) (fun c hc => (h c hc).2.2)]
    show ((w.cps.map up1).toList) = _
    rw [Array.toList_map]
  refine ⟨fun c hc => ?_, e⟩
  rw [e] at hc
  obtain ⟨d, hd, rfl⟩ := List.mem_map.mp hc
  have := h d hd
  unfold up1
  split <;> omega
theorem upper_join {ws : List Str} (h : ∀ w ∈ ws, WdOk w) : Txt.upper (Txt.join " " ws) = Txt.join " " (ws.map Txt.upper) := by
  have asc : ∀ c ∈ cs (Txt.join " " ws), c < 128 := fun c hc => by
    rcases words_mem hc with e | ⟨w, hw, hc⟩
    · omega
    · exact (h w hw c hc).2.2
  refine cs_inj ?_
  rw [PyProof.Rows.upper_ascii (x := Txt.join " " ws) asc]
  show ((Txt.join " " ws).cps.map up1).toList = _
  rw [Array.toList_map]
  show (cs (Txt.join " " ws)).map up1 = _
  rw [cs_join, cs_join, cs_sp]
  have go : ∀ zs : List Str, (∀ w ∈ zs, WdOk w) → (TL.joinL [32] (zs.map cs)).map up1 = TL.joinL [32] ((zs.map Txt.upper).map cs) := by
    intro zs
    induction zs with
    | nil => exact fun _ => rfl
    | cons a r ih =>
      intro hz
      have ha := (upper_ok (hz a (List.mem_cons_self ..))).2
      cases r with
      | nil => exact ha.symm
      | cons b r =>
        show (cs a ++ ([32] ++ TL.joinL [32] ((b :: r).map cs))).map up1 = cs (Txt.upper a) ++ ([32] ++ TL.joinL [32] (((b :: r).map Txt.upper).map cs))
        rw [List.map_append, List.map_append, ih fun w hw => hz w (List.mem_cons_of_mem _ hw), ha]
        rfl
  exact go ws h
end DK

set_option Elab.async false
set_option linter.all false
set_option maxRecDepth 100000
set_option maxHeartbeats 4000000
namespace DK
open PySem PySem.Spec PyProof.Rows L2
/-! ### a row changed is none -/
structure RowW (hd : Bool) (w0 w1 : Str) (rest ini : List Str) (wl : Str) : Prop where
  len : (w0 :: w1 :: rest).length = if hd = true then 4 else 2
  ok : ∀ w ∈ w0 :: w1 :: rest, WdOk w
  low : ∃ c l, cs w0 = c :: l ∧ 97 ≤ c ∧ c ≤ 122
  n1 : 1 ≤ w1.length
  eq : w0 :: w1 :: rest = ini ++ [wl]
theorem wd_app {a b : Str} (ha : WdOk a) (hb : WdOk b) : WdOk (a ++ b) := fun c hc => by
  rw [cs_app] at hc
  rcases List.mem_append.mp hc with h | h
  · exact ha c h
  · exact hb c h
theorem wd_0 : WdOk "0" := by unfold WdOk; decide +kernel
theorem wd_1 : WdOk "1" := by unfold WdOk; decide +kernel
theorem wd_e : WdOk "" := by unfold WdOk; decide +kernel
theorem wd_t : WdOk "\t" := by unfold WdOk; decide +kernel
theorem wd_d : WdOk "." := by unfold WdOk; decide +kernel
theorem wd_m : WdOk "-" := by unfold WdOk; decide +kernel
theorem wd_g : WdOk great70 := by unfold WdOk; decide +kernel
theorem wd_l : WdOk "abcdefghi" := by unfold WdOk; decide +kernel
section
variable {hd : Bool} {w0 w1 wl : Str} {rest ini : List Str}
theorem RowW.row (R : RowW hd w0 w1 rest ini wl) : Txt.join " " (w0 :: w1 :: rest) = w0 ++ " " ++ Txt.join " " (w1 :: rest) := by rw [join_two, app_assoc]
theorem RowW.rep (R : RowW hd w0 w1 rest ini wl) (z : Str) : rep1 (Txt.join " " (w0 :: w1 :: rest)) " " z = w0 ++ z ++ Txt.join " " (w1 :: rest) := by
  rw [R.row]
  exact rep1_app (s := 32) (S := []) (by decide +kernel) (fun h => (R.ok w0 (List.mem_cons_self ..) 32 h).1 rfl) z
theorem RowW.split (R : RowW hd w0 w1 rest ini wl) : Txt.split (Txt.join " " (w0 :: w1 :: rest)) " " = w0 :: w1 :: rest := split_words (by simp) R.ok
theorem RowW.ok0 (R : RowW hd w0 w1 rest ini wl) : WdOk w0 := R.ok w0 (List.mem_cons_self ..)
theorem RowW.ok1 (R : RowW hd w0 w1 rest ini wl) : WdOk w1 := R.ok w1 (List.mem_cons_of_mem _ (List.mem_cons_self ..))
theorem RowW.okr (R : RowW hd w0 w1 rest ini wl) : ∀ w ∈ rest, WdOk w := fun w h => R.ok w (List.mem_cons_of_mem _ (List.mem_cons_of_mem _ h))
theorem RowW.oki (R : RowW hd w0 w1 rest ini wl) : ∀ w ∈ ini, WdOk w := fun w h => R.ok w (by rw [R.eq]; exact List.mem_append_left _ h)
theorem RowW.okl (R : RowW hd w0 w1 rest ini wl) : WdOk wl := R.ok wl (by rw [R.eq]; exact List.mem_append_right _ (List.mem_singleton.mpr rfl))
theorem two_bad (R : RowW hd w0 w1 rest ini wl) {a : Str} (ha : WdOk a) {w : Str} (hw : w = a ++ w1) (h : ∀ hi : Int, numOf w 1 hi = none) : (∀ u ∈ w0 :: w :: rest, WdOk u) ∧ noneW hd (w0 :: w :: rest) := by
  refine ⟨fun u hu => ?_, none_two h⟩
  rcases List.mem_cons.mp hu with rfl | hu
  · exact R.ok0
  · rcases List.mem_cons.mp hu with rfl | hu
    · rw [hw]
      exact wd_app ha R.ok1
    · exact R.okr u hu
theorem last_bad (R : RowW hd w0 w1 rest ini wl) {w : Str} (hw : WdOk w) (h : ∀ lo : Int, numOf w lo mostN = none) : (∀ u ∈ ini ++ [w], WdOk u) ∧ noneW hd (ini ++ [w]) := by
  refine ⟨fun u hu => ?_, none_last h⟩
  rcases List.mem_append.mp hu with hu | hu
  · exact R.oki u hu
  · rw [List.mem_singleton.mp hu]
    exact hw
theorem chg_bad (R : RowW hd w0 w1 rest ini wl) {way : Nat} (h3 : 3 ≤ way) (h14 : way ≤ 14) : ∃ ws, chg (Txt.join " " (w0 :: w1 :: rest)) way "abcdefghi" = Txt.join " " ws ∧ ws ≠ [] ∧ (∀ w ∈ ws, WdOk w) ∧ noneW hd ws := by
  have hl := R.len
  have c1 : cs ("0" : Str) = [48] := by decide +kernel
  have hw : way = 3 ∨ way = 4 ∨ way = 5 ∨ way = 6 ∨ way = 7 ∨ way = 8 ∨ way = 9 ∨ way = 10 ∨ way = 11 ∨ way = 12 ∨ way = 13 ∨ way = 14 := by omega
  rcases hw with rfl | rfl | rfl | rfl | rfl | rfl | rfl | rfl | rfl | rfl | rfl | rfl
  · refine ⟨(w0 :: w1 :: rest) ++ [("" : Str)], (join_snoc _ _ (by simp)).symm, by simp, fun w hw => ?_, none_len ?_⟩
    · rcases List.mem_append.mp hw with hw | hw
      · exact R.ok w hw
      · rw [List.mem_singleton.mp hw]
        exact wd_e
    · rw [List.length_append, hl]
      cases hd <;> decide
  · refine ⟨"" :: w0 :: w1 :: rest, ?_, by simp, fun w hw => ?_, none_len ?_⟩
    · show " " ++ Txt.join " " (w0 :: w1 :: rest) = Txt.join " " ("" :: w0 :: w1 :: rest)
      rw [join_two " " "" w0]
      exact cs_inj (by rw [cs_app "", show cs ("" : Str) = [] by decide +kernel]; rfl)
    · rcases List.mem_cons.mp hw with rfl | hw
      · exact wd_e
      · exact R.ok w hw
    · rw [List.length_cons, hl]
      cases hd <;> decide
  · refine ⟨w0 :: "" :: w1 :: rest, ?_, by simp, fun w hw => ?_, none_len ?_⟩
    · refine (R.rep "  ").trans (cs_inj ?_)
      rw [join_two, join_two, cs_app, cs_app, cs_app, cs_app, cs_app, cs_app, show cs ("  " : Str) = [32, 32] by decide +kernel, cs_sp, show cs ("" : Str) = [] by decide +kernel, List.append_assoc]
      rfl
    · rcases List.mem_cons.mp hw with rfl | hw
      · exact R.ok0
      · rcases List.mem_cons.mp hw with rfl | hw
        · exact wd_e
        · exact R.ok w (List.mem_cons_of_mem _ hw)
    · rw [List.length_cons, List.length_cons, List.length_cons]
      rw [List.length_cons, List.length_cons] at hl
      cases hd
      · have hl : rest.length + 1 + 1 = 2 := hl
        show rest.length + 1 + 1 + 1 ≠ 2
        omega
      · have hl : rest.length + 1 + 1 = 4 := hl
        show rest.length + 1 + 1 + 1 ≠ 4
        omega
  · refine ⟨ini ++ [wl ++ "0"] ++ [("1" : Str)], ?_, by simp, fun w hw => ?_, none_len ?_⟩
    · rw [join_more _ _ _ (by simp), join_post, ← R.eq, app_assoc]
      show _ ++ ("0 1" : Str) = _ ++ ("0" ++ (" " ++ "1"))
      rw [show ("0 1" : Str) = "0" ++ (" " ++ "1") by decide +kernel]
    · rcases List.mem_append.mp hw with hw | hw
      · rcases List.mem_append.mp hw with hw | hw
        · exact R.oki w hw
        · rw [List.mem_singleton.mp hw]
          exact wd_app R.okl wd_0
      · rw [List.mem_singleton.mp hw]
        exact wd_1
    · have e := congrArg List.length R.eq
      rw [hl, List.length_append] at e
      rw [List.length_append, List.length_append]
      show ini.length + 1 + 1 ≠ _
      have e : (if hd = true then 4 else 2) = ini.length + 1 := e
      omega
  · have l1 : 1 < (("0" : Str) ++ w1).length := by
      have h0 : ("0" : Str).length = 1 := by decide +kernel
      have := R.n1
      rw [str_len_app]
      omega
    obtain ⟨h1, h2⟩ := two_bad R wd_0 (w := "0" ++ w1) rfl fun hi => num_zero (by rw [cs_app, c1]; rfl) l1
    refine ⟨w0 :: ("0" ++ w1) :: rest, ?_, by simp, h1, h2⟩
    refine (R.rep " 0").trans ?_
    rw [join_two, join_pre, app_assoc, show (" 0" : Str) = " " ++ "0" by decide +kernel, app_assoc]
  · refine ⟨(w0 ++ "\t" ++ w1) :: rest, ?_, by simp, fun w hw => ?_, none_len ?_⟩
    · refine (R.rep "\t").trans ?_
      rw [join_pre]
    · rcases List.mem_cons.mp hw with rfl | hw
      · exact wd_app (wd_app R.ok0 wd_t) R.ok1
      · exact R.okr w hw
    · rw [List.length_cons]
      rw [List.length_cons, List.length_cons] at hl
      cases hd
      · have hl : rest.length + 1 + 1 = 2 := hl
        show rest.length + 1 ≠ 2
        omega
      · have hl : rest.length + 1 + 1 = 4 := hl
        show rest.length + 1 ≠ 4
        omega
  · obtain ⟨c, l, hc, h97, h122⟩ := R.low
    have hu := (upper_ok R.ok0).2
    rw [hc] at hu
    have hup : up1 c = c - 32 := by unfold up1; rw [if_pos ⟨h97, h122⟩]
    rw [List.map_cons, hup] at hu
    refine ⟨(w0 :: w1 :: rest).map Txt.upper, upper_join R.ok, by simp, fun w hw => ?_, none_one (fun e => ?_) (Bool.eq_false_iff.mpr fun e => ?_)⟩
    · obtain ⟨u, hu, rfl⟩ := List.mem_map.mp hw
      exact (upper_ok (R.ok u hu)).1
    · rw [e, show cs ("desk" : Str) = [100, 101, 115, 107] by decide +kernel] at hu
      have := (List.cons.inj hu).1
      omega
    · have := ((isName_iff _).mp e).2.2 (c - 32) (by rw [hu]; exact List.mem_cons_self ..)
      omega
  · obtain ⟨h1, h2⟩ := last_bad R (w := wl ++ ".") (wd_app R.okl wd_d) fun lo => num_no_digit (c := 46) (by rw [cs_app, show cs ("." : Str) = [46] by decide +kernel]; exact List.mem_append_right _ (List.mem_singleton.mpr rfl)) (by decide)
    refine ⟨ini ++ [wl ++ "."], ?_, by simp, h1, h2⟩
    rw [join_post, ← R.eq]
    rfl
  · refine ⟨[w0], ?_, by simp, fun w hw => ?_, none_len ?_⟩
    · show (Txt.split _ " ").headD "" = w0
      rw [R.split]
      rfl
    · rw [List.mem_singleton.mp hw]
      exact R.ok0
    · show 1 ≠ _
      cases hd <;> decide
  · obtain ⟨h1, h2⟩ := two_bad R wd_m (w := "-" ++ w1) rfl fun hi => num_no_digit (c := 45) (by rw [cs_app, show cs ("-" : Str) = [45] by decide +kernel]; exact List.mem_append_left _ (List.mem_singleton.mpr rfl)) (by decide)
    refine ⟨w0 :: ("-" ++ w1) :: rest, ?_, by simp, h1, h2⟩
    refine (R.rep " -").trans ?_
    rw [join_two, join_pre, app_assoc, show (" -" : Str) = " " ++ "-" by decide +kernel, app_assoc]
  · obtain ⟨h1, h2⟩ := last_bad R (w := great70) wd_g fun lo => num_out fun h => absurd h.2 (by decide +kernel)
    refine ⟨ini ++ [great70], ?_, by simp, h1, h2⟩
    show Txt.join " " ((Txt.split _ " ").dropLast ++ [great70]) = _
    rw [R.split, R.eq, List.dropLast_concat]
  · refine ⟨"abcdefghi" :: w1 :: rest, ?_, by simp, fun w hw => ?_, none_one (by decide +kernel) (by decide +kernel)⟩
    · show Txt.join " " ([("abcdefghi" : Str)] ++ (Txt.split _ " ").drop 1) = _
      rw [R.split]
      rfl
    · rcases List.mem_cons.mp hw with rfl | hw
      · exact wd_l
      · exact R.ok w (List.mem_cons_of_mem _ hw)
end
/-! ### the two kinds of row -/
theorem num_wd {i : Int} (h : 0 ≤ i) : WdOk (numS i) := by
  obtain ⟨n, rfl⟩ := nat_of h
  intro c hc
  rw [cs_num] at hc
  have := TL.numL_digits n c hc
  omega
theorem num_pos_len {i : Int} (h : 0 ≤ i) : 1 ≤ (numS i).length := by
  obtain ⟨n, rfl⟩ := nat_of h
  rw [num_len]
  exact List.length_pos_iff.mpr (TL.numL_ne n)
theorem name_wd {n : Str} (h : isName n = true) : WdOk n := fun c hc => by
  have := ((isName_iff n).mp h).2.2 c hc
  omega
theorem desk_wd : WdOk "desk" := by unfold WdOk; decide +kernel
theorem head_row {r g t : Int} (hr : 0 ≤ r) (hg : 0 ≤ g) (ht : 0 ≤ t) : RowW true "desk" (numS r) [numS g, numS t] ["desk", numS r, numS g] (numS t) := by
  refine ⟨rfl, fun w hw => ?_, ⟨100, [101, 115, 107], by decide +kernel, by decide, by decide⟩, num_pos_len hr, rfl⟩
  simp only [List.mem_cons, List.not_mem_nil, or_false] at hw
  rcases hw with rfl | rfl | rfl | rfl
  · exact desk_wd
  · exact num_wd hr
  · exact num_wd hg
  · exact num_wd ht
theorem pair_row {e : Str × Int} (hn : isName e.1 = true) (h0 : 0 ≤ e.2) : RowW false e.1 (numS e.2) [] [e.1] (numS e.2) := by
  refine ⟨rfl, fun w hw => ?_, ?_, num_pos_len h0, rfl⟩
  · simp only [List.mem_cons, List.not_mem_nil, or_false] at hw
    rcases hw with rfl | rfl
    · exact name_wd hn
    · exact num_wd h0
  · have h := (isName_iff e.1).mp hn
    cases hc : cs e.1 with
    | nil => rw [hc] at h; exact absurd h.1 (by decide)
    | cons c l =>
      rw [hc] at h
      have := h.2.2 c (List.mem_cons_self ..)
      exact ⟨c, l, rfl, this.1, this.2⟩
end DK

set_option Elab.async false
set_option linter.all false
set_option maxRecDepth 100000
set_option maxHeartbeats 4000000
namespace DK
open PySem PySem.Spec PyProof.Rows L2
/-! ### what a text with a fault is told -/
def outI : Out → Int
  | .ok _ _ _ _ => -1
  | .err k => (k : Int)
/-- the number that a text is refused with, -1 where it is read -/
def toldT (z : Str) : Int := outI (readRows (Txt.split z "\n"))
theorem slt_empty {n : Str} (h : isName n = true) : slt "" n = true := by
  have h1 := ((isName_iff n).mp h).1
  have e : cs ("" : Str) = [] := by decide +kernel
  unfold slt
  refine decide_eq_true ?_
  show cs "" < cs n
  rw [e]
  cases hc : cs n with
  | nil => rw [hc] at h1; exact absurd h1 (by decide)
  | cons a l => exact List.nil_lt_cons a l
/-- rows that a desk with r drawers may have -/
structure Pre (r : Int) (c : CM) : Prop where
  ok : ∀ e ∈ c, isName e.1 = true ∧ 1 ≤ e.2 ∧ e.2 ≤ mostN
  asc : c.Pairwise fun e f => slt e.1 f.1 = true
  ln : (c.length : Int) ≤ r
theorem Good.pre {r : Int} {c : CM} {g t : Int} (G : Good r c g t) : Pre r c := ⟨fun e he => ⟨G.nm e he, G.lo e he, G.hi e he⟩, G.asc, G.ln⟩
theorem Pre.sub {r : Int} {c d : CM} (P : Pre r c) (h : d.Sublist c) : Pre r d := ⟨fun e he => P.ok e (h.subset he), P.asc.sublist h, by have := P.ln; have := h.length_le; omega⟩
def lastN (last : Str) : CM → Str
  | [] => last
  | e :: c => lastN e.1 c
theorem lastN_snoc (e : Str × Int) : ∀ (c : CM) (last : Str), lastN last (c ++ [e]) = e.1
  | [], _ => rfl
  | x :: c, _ => lastN_snoc e c x.1
theorem row_ne (e : Str × Int) : rowT e ≠ "" := fun h => by
  have h1 : cs (rowT e) = [] := by rw [h]; decide +kernel
  rw [cs_row] at h1
  simp at h1
theorem head_ne (r g t : Int) : headT r g t ≠ "" := fun h => by
  have h1 : cs (headT r g t) = [] := by rw [h]; decide +kernel
  unfold headT at h1
  rw [join_two, cs_app, show cs ("desk" : Str) = [100, 101, 115, 107] by decide +kernel] at h1
  cases h1
theorem scan_run {r : Int} : ∀ (c1 c0 : CM) (last : Str) (k : Nat) (rest : List Str), (∀ e ∈ c1, isName e.1 = true ∧ 1 ≤ e.2 ∧ e.2 ≤ mostN) → (c1.Pairwise fun e f => slt e.1 f.1 = true) → (∀ e ∈ c1, slt last e.1 = true) → ((c0.length + c1.length : Nat) : Int) ≤ r →
    scanR r (c1.map rowT ++ rest) k c0 last = scanR r rest (k + c1.length) (c0 ++ c1) (lastN last c1)
  | [], c0, last, k, rest, _, _, _, _ => by
    rw [List.append_nil]
    rfl
  | e :: c, c0, last, k, rest, ok, asc, top, ln => by
    have he := ok e (List.mem_cons_self ..)
    have hp := List.pairwise_cons.mp asc
    rw [List.length_cons] at ln
    show scanR r (rowT e :: (c.map rowT ++ rest)) k c0 last = _
    rw [scanR, if_neg fun h => row_ne e h.2, pair_of_row he.1 he.2.1 he.2.2]
    dsimp only
    rw [if_pos ⟨top e (List.mem_cons_self ..), fun h => by omega⟩, scan_run c (c0 ++ [e]) e.1 (k + 1) rest (fun f hf => ok f (List.mem_cons_of_mem _ hf)) hp.2 hp.1 (by rw [List.length_append, List.length_singleton]; omega), List.append_assoc, List.length_cons]
    show scanR r rest (k + 1 + c.length) (c0 ++ e :: c) (lastN e.1 c) = scanR r rest (k + (c.length + 1)) (c0 ++ e :: c) (lastN e.1 c)
    rw [show k + 1 + c.length = k + (c.length + 1) by omega]
section
variable {r g t : Int} {c : CM}
/-- the head's numbers -/
structure HdOk (r g t : Int) : Prop where
  r1 : 1 ≤ r
  r2 : r ≤ 50
  g0 : 0 ≤ g
  g1 : g ≤ mostN
  t0 : 0 ≤ t
  t1 : t ≤ mostN
theorem Good.hd (G : Good r c g t) : HdOk r g t := ⟨G.r1, G.r2, G.g0, G.g1, G.t0, G.t1⟩
theorem HdOk.of (h : HdOk r g t) : headOf (headT r g t) = some (r, g, t) := head_of_text h.r1 h.r2 h.g0 h.g1 h.t0 h.t1
theorem read_pre (h : HdOk r g t) (P : Pre r c) (rest : List Str) : readRows (headT r g t :: (c.map rowT ++ rest)) = tailR r g t (headT r g t :: (c.map rowT ++ rest)) (scanR r rest (1 + c.length) c (lastN "" c)) := by
  rw [read_some h.of, scan_run c [] "" 1 rest P.ok P.asc (fun e he => slt_empty (P.ok e he).1) (by show ((([] : CM).length + c.length : Nat) : Int) ≤ r; rw [List.length_nil, Nat.zero_add]; exact P.ln), List.nil_append]
theorem read_bad (h : HdOk r g t) (P : Pre r c) {x : Str} {post : List Str} (ne : ¬ (post = [] ∧ x = "")) (b : pairOf x = none ∨ ∃ e, pairOf x = some e ∧ (slt (lastN "" c) e.1 = false ∨ (c.length : Int) = r)) :
    readRows (headT r g t :: (c.map rowT ++ x :: post)) = .err (c.length + 1) := by
  rw [read_pre h P, scanR, if_neg ne]
  rcases b with b | ⟨e, b, q⟩
  · rw [b]
    show Out.err (1 + c.length) = _
    rw [Nat.add_comm]
  · rw [b]
    dsimp only
    rw [if_neg]
    · show Out.err (1 + c.length) = _
      rw [Nat.add_comm]
    · rintro ⟨h1, h2⟩
      rcases q with q | q
      · rw [h1] at q
        cases q
      · exact h2 q
theorem getLastD_snoc' (l : List Str) (x d : Str) : (l ++ [x]).getLastD d = x := by
  rw [List.getLastD_eq_getLast?, List.getLast?_concat]
  rfl
theorem read_all (h : HdOk r g t) (P : Pre r c) (sm : sumC c + (r + 1) * g ≤ t) : readRows (headT r g t :: (c.map rowT ++ [("" : Str)])) = .ok r c g t := by
  rw [read_pre h P, scanR, if_pos ⟨rfl, rfl⟩, tailR, ← List.cons_append, getLastD_snoc', if_pos ⟨rfl, sm⟩]
theorem read_over (h : HdOk r g t) (P : Pre r c) (sm : t < sumC c + (r + 1) * g) : readRows (headT r g t :: (c.map rowT ++ [("" : Str)])) = .err (c.length + 1) := by
  rw [read_pre h P, scanR, if_pos ⟨rfl, rfl⟩, tailR, ← List.cons_append, getLastD_snoc', if_neg (fun q => by omega)]
  unfold endR
  rw [getLastD_snoc', if_pos rfl, List.length_append, List.length_cons, List.length_map]
  rfl
theorem read_noend (h : HdOk r g t) (P : Pre r c) : readRows (headT r g t :: c.map rowT) = .err (c.length + 1) := by
  have hl : (headT r g t :: c.map rowT).getLastD "" ≠ "" := by
    rcases List.eq_nil_or_concat c with rfl | ⟨d, e, rfl⟩
    · exact head_ne r g t
    · rw [List.concat_eq_append, List.map_append, ← List.cons_append]
      show ((headT r g t :: d.map rowT) ++ [rowT e]).getLastD "" ≠ ""
      rw [getLastD_snoc']
      exact row_ne e
  have e := read_pre h P []
  rw [List.append_nil] at e
  rw [e, scanR, tailR, if_neg (fun q => hl q.1)]
  unfold endR
  rw [if_neg hl, List.length_cons, List.length_map]
end
/-! ### texts joined -/
theorem split_rows {rows : List Str} (hn : rows ≠ []) (h : ∀ x ∈ rows, 10 ∉ cs x) : Txt.split (Txt.join "\n" rows ++ "\n") "\n" = rows ++ [("" : Str)] := by
  rw [← join_snoc _ _ hn]
  refine TL.split_join (s := 10) (S := []) (by decide +kernel) (by decide +kernel) (by simp) fun p hp => ?_
  rcases List.mem_append.mp hp with hp | hp
  · exact h p hp
  · rw [List.mem_singleton.mp hp]
    have : cs ("" : Str) = [] := by decide +kernel
    show 10 ∉ cs ("" : Str)
    rw [this]
    exact fun z => nomatch z
theorem split_rows' {rows : List Str} (hn : rows ≠ []) (h : ∀ x ∈ rows, 10 ∉ cs x) : Txt.split (Txt.join "\n" rows) "\n" = rows :=
  TL.split_join (s := 10) (S := []) (by decide +kernel) (by decide +kernel) hn h
theorem told_nl : toldT "\n" = 0 := by decide +kernel
theorem told_none : toldT "" = 0 := by decide +kernel
theorem told_least : toldT "desk 1 0 0\n" = -1 := by decide +kernel
section
variable {r g t : Int} {c : CM}
theorem fin_head {x : Str} {rest : List Str} (hx : headOf x = none) (fx : 10 ∉ cs x) (fr : ∀ y ∈ rest, 10 ∉ cs y) : toldT (Txt.join "\n" (x :: rest) ++ "\n") = 0 := by
  unfold toldT
  rw [split_rows (by simp) fun y hy => by
    rcases List.mem_cons.mp hy with rfl | hy
    · exact fx
    · exact fr y hy]
  rw [List.cons_append, read_head hx]
  rfl
theorem pre_free (P : Pre r c) : ∀ y ∈ c.map rowT, 10 ∉ cs y := fun y hy => by
  obtain ⟨e, he, rfl⟩ := List.mem_map.mp hy
  exact row_free (P.ok e he).1 (by have := (P.ok e he).2.1; omega)
theorem HdOk.free (h : HdOk r g t) : 10 ∉ cs (headT r g t) := head_free (by have := h.r1; omega) h.g0 h.t0
theorem fin_row (h : HdOk r g t) (P : Pre r c) {x : Str} {post : List Str} (b : pairOf x = none ∨ ∃ e, pairOf x = some e ∧ (slt (lastN "" c) e.1 = false ∨ (c.length : Int) = r)) (fx : 10 ∉ cs x) (fr : ∀ y ∈ post, 10 ∉ cs y) {rows : List Str} (e : rows = headT r g t :: (c.map rowT ++ x :: post)) :
    toldT (Txt.join "\n" rows ++ "\n") = ((c.length + 1 : Nat) : Int) := by
  subst e
  unfold toldT
  rw [split_rows (by simp) fun y hy => by
    rcases List.mem_cons.mp hy with rfl | hy
    · exact h.free
    · rcases List.mem_append.mp hy with hy | hy
      · exact pre_free P y hy
      · rcases List.mem_cons.mp hy with rfl | hy
        · exact fx
        · exact fr y hy]
  rw [List.cons_append, List.append_assoc, List.cons_append, read_bad h P (fun q => by simp at q) b]
  rfl
theorem fin_ok (h : HdOk r g t) (P : Pre r c) (sm : sumC c + (r + 1) * g ≤ t) {rows : List Str} (e : rows = headT r g t :: c.map rowT) : toldT (Txt.join "\n" rows ++ "\n") = -1 := by
  subst e
  unfold toldT
  rw [split_rows (by simp) fun y hy => by
    rcases List.mem_cons.mp hy with rfl | hy
    · exact h.free
    · exact pre_free P y hy]
  rw [List.cons_append, read_all h P sm]
  rfl
end
end DK

set_option Elab.async false
set_option linter.all false
set_option maxRecDepth 100000
set_option maxHeartbeats 4000000
namespace DK
open PySem PySem.Spec PyProof.Rows L2
/-! ### each fault is told -/
theorem one_x : headOf "x" = none ∧ pairOf "x" = none := by decide +kernel
theorem one_e : headOf "" = none ∧ pairOf "" = none := by decide +kernel
theorem x_free : 10 ∉ cs ("x" : Str) := by decide +kernel
theorem e_free : 10 ∉ cs ("" : Str) := by decide +kernel
theorem zero_none (hi : Int) : numOf "0" 1 hi = none := num_out fun h => absurd h.1 (by decide +kernel)
theorem none_head {ws : List Str} (hn : ws ≠ []) (ok : ∀ w ∈ ws, WdOk w) (h : noneW true ws) : headOf (Txt.join " " ws) = none := by
  rw [head_w, split_words hn ok]
  exact h
theorem none_pair {ws : List Str} (hn : ws ≠ []) (ok : ∀ w ∈ ws, WdOk w) (h : noneW false ws) : pairOf (Txt.join " " ws) = none := by
  rw [pair_w, split_words hn ok]
  exact h
section
variable {r g t : Int} {c : CM}
theorem spoilt_head (G : Good r c g t) {way : Nat} (hw : way < 19) : toldT (Txt.join "\n" (spoilt (rowsT r c g t) 0 way "abcdefghi").1 ++ "\n") = (spoilt (rowsT r c g t) 0 way "abcdefghi").2 := by
  have h := G.hd
  have r0 : 0 ≤ r := by have := h.r1; omega
  have pf := pre_free G.pre
  have R := head_row r0 h.g0 h.t0
  have allf : ∀ y ∈ rowsT r c g t, 10 ∉ cs y := fun y hy => by
    rcases List.mem_cons.mp hy with rfl | hy
    · exact h.free
    · exact pf y hy
  by_cases w0 : way = 0
  · subst w0
    exact fin_head one_x.1 x_free allf
  by_cases w1 : way = 1
  · subst w1
    exact fin_row (c := []) h (G.pre.sub (List.nil_sublist _)) (.inl (by rw [pair_w, split_head r0 h.g0 h.t0]; rfl)) h.free pf rfl
  by_cases w2 : way = 2
  · subst w2
    exact fin_head one_e.1 e_free allf
  by_cases w15 : way = 15
  · subst w15
    show toldT (Txt.join "\n" (c.map rowT) ++ "\n") = 0
    cases c with
    | nil => exact told_nl
    | cons e c =>
      have he := G.pre.ok e (List.mem_cons_self ..)
      exact fin_head (by rw [head_w, split_row he.1 (by omega)]; rfl) (pf _ (List.mem_cons_self ..)) fun y hy => pf y (List.mem_cons_of_mem _ hy)
  by_cases w16 : way = 16
  · subst w16
    show toldT (Txt.join "\n" ([] ++ ((rowsT r c g t).take 2).reverse ++ (rowsT r c g t).drop 2) ++ "\n") = if 0 + 1 = (rowsT r c g t).length then -1 else 0
    cases c with
    | nil => exact fin_ok h G.pre G.sm rfl
    | cons e c =>
      have he := G.pre.ok e (List.mem_cons_self ..)
      rw [if_neg (by show ¬ 0 + 1 = ((c.map rowT).length + 1) + 1; omega)]
      exact fin_head (x := rowT e) (rest := headT r g t :: c.map rowT) (by rw [head_w, split_row he.1 (by omega)]; rfl) (pf _ (List.mem_cons_self ..)) fun y hy => by
        rcases List.mem_cons.mp hy with rfl | hy
        · exact h.free
        · exact pf y (List.mem_cons_of_mem _ hy)
  by_cases w17 : way = 17
  · subst w17
    show toldT (Txt.join "\n" ([] ++ [Txt.join " " ((Txt.split (headT r g t) " ").take 1 ++ [("0" : Str)] ++ (Txt.split (headT r g t) " ").drop 2)] ++ c.map rowT) ++ "\n") = ((0 : Nat) : Int)
    rw [split_head r0 h.g0 h.t0]
    have ok : ∀ w ∈ [("desk" : Str), "0", numS g, numS t], WdOk w := fun w hw => by
      simp only [List.mem_cons, List.not_mem_nil, or_false] at hw
      rcases hw with rfl | rfl | rfl | rfl
      · exact desk_wd
      · exact wd_0
      · exact num_wd h.g0
      · exact num_wd h.t0
    exact fin_head (none_head (by simp) ok (none_two zero_none)) (words_free ok) pf
  by_cases w18 : way = 18
  · subst w18
    show toldT (Txt.join "\n" ([Txt.join " " ([("desk" : Str), "51"] ++ (Txt.split (headT r g t) " ").drop 2)] ++ c.map rowT) ++ "\n") = 0
    rw [split_head r0 h.g0 h.t0]
    have ok : ∀ w ∈ [("desk" : Str), "51", numS g, numS t], WdOk w := fun w hw => by
      simp only [List.mem_cons, List.not_mem_nil, or_false] at hw
      rcases hw with rfl | rfl | rfl | rfl
      · exact desk_wd
      · unfold WdOk; decide +kernel
      · exact num_wd h.g0
      · exact num_wd h.t0
    refine fin_head (none_head (by simp) ok ?_) (words_free ok) pf
    show (if ("desk" : Str) = "desk" then _ else none) = none
    rw [if_pos rfl, show numOf "51" 1 50 = none by decide +kernel]
    rfl
  obtain ⟨ws, e, hn, ok, no⟩ := chg_bad R (way := way) (by omega) (by omega)
  have e2 : spoilt (rowsT r c g t) 0 way "abcdefghi" = (Txt.join " " ws :: c.map rowT, 0) := by
    unfold spoilt
    rw [if_neg w0, if_neg w1, if_neg w2, if_neg w15, if_neg w16, if_neg w17, if_neg w18]
    show ([] ++ [chg (headT r g t) way "abcdefghi"] ++ c.map rowT, _) = _
    rw [show headT r g t = Txt.join " " [("desk" : Str), numS r, numS g, numS t] from rfl, e]
    rfl
  rw [e2]
  exact fin_head (none_head hn ok no) (words_free ok) pf
theorem spoilt_row {a b : CM} {e : Str × Int} (G : Good r (a ++ e :: b) g t) {way : Nat} (hw : way < 19) : toldT (Txt.join "\n" (spoilt (rowsT r (a ++ e :: b) g t) (a.length + 1) way "abcdefghi").1 ++ "\n") = (spoilt (rowsT r (a ++ e :: b) g t) (a.length + 1) way "abcdefghi").2 := by
  have h := G.hd
  have r0 : 0 ≤ r := by have := h.r1; omega
  have P := G.pre
  have pf := pre_free P
  have me := P.ok e (List.mem_append_right _ (List.mem_cons_self ..))
  have R := pair_row me.1 (by omega)
  have rw0 : rowsT r (a ++ e :: b) g t = headT r g t :: (a.map rowT ++ rowT e :: b.map rowT) := by
    unfold rowsT
    rw [List.map_append]
    rfl
  have la : (a.map rowT).length = a.length := List.length_map ..
  have tk : (rowsT r (a ++ e :: b) g t).take (a.length + 1) = headT r g t :: a.map rowT := by
    rw [rw0, List.take_succ_cons, List.take_left' la]
  have dr : (rowsT r (a ++ e :: b) g t).drop (a.length + 1) = rowT e :: b.map rowT := by
    rw [rw0, List.drop_succ_cons, List.drop_left' la]
  have dr1 : (rowsT r (a ++ e :: b) g t).drop (a.length + 1 + 1) = b.map rowT := by
    rw [← List.drop_drop, dr]
    rfl
  have gd : (rowsT r (a ++ e :: b) g t).getD (a.length + 1) "" = rowT e := by
    rw [rw0, List.getD_eq_getElem?_getD, List.getElem?_cons_succ, List.getElem?_append_right (by omega), la, Nat.sub_self]
    rfl
  have Pa : Pre r a := P.sub (List.sublist_append_left _ _)
  have fe : 10 ∉ cs (rowT e) := row_free me.1 (by omega)
  have fb : ∀ y ∈ b.map rowT, 10 ∉ cs y := pre_free (P.sub (List.Sublist.trans (List.sublist_cons_self e b) (List.sublist_append_right _ _)))
  have feb : ∀ y ∈ rowT e :: b.map rowT, 10 ∉ cs y := fun y hy => by
    rcases List.mem_cons.mp hy with rfl | hy
    · exact fe
    · exact fb y hy
  have pe := pair_of_row me.1 me.2.1 me.2.2
  by_cases w0 : way = 0
  · subst w0
    show toldT (Txt.join "\n" ((rowsT r (a ++ e :: b) g t).take (a.length + 1) ++ [("x" : Str)] ++ (rowsT r (a ++ e :: b) g t).drop (a.length + 1)) ++ "\n") = ((a.length + 1 : Nat) : Int)
    rw [tk, dr]
    exact fin_row h Pa (.inl one_x.2) x_free feb (by simp)
  by_cases w1 : way = 1
  · subst w1
    show toldT (Txt.join "\n" ((rowsT r (a ++ e :: b) g t).take (a.length + 1) ++ [(rowsT r (a ++ e :: b) g t).getD (a.length + 1) ""] ++ (rowsT r (a ++ e :: b) g t).drop (a.length + 1)) ++ "\n") = if a.length + 1 = 0 then 1 else ((a.length + 1 : Nat) : Int) + 1
    rw [tk, dr, gd, if_neg (by omega)]
    have sub : (a ++ [e]).Sublist (a ++ e :: b) := List.Sublist.append (List.Sublist.refl _) (List.singleton_sublist.mpr (List.mem_cons_self ..))
    have := fin_row h (c := a ++ [e]) (P.sub sub) (x := rowT e) (post := b.map rowT) (.inr ⟨e, pe, .inl (by rw [lastN_snoc]; exact slt_irr _)⟩) fe fb (rows := headT r g t :: a.map rowT ++ [rowT e] ++ (rowT e :: b.map rowT)) (by simp)
    rw [this, List.length_append]
    show ((a.length + 1 + 1 : Nat) : Int) = _
    omega
  by_cases w2 : way = 2
  · subst w2
    show toldT (Txt.join "\n" ((rowsT r (a ++ e :: b) g t).take (a.length + 1) ++ [("" : Str)] ++ (rowsT r (a ++ e :: b) g t).drop (a.length + 1)) ++ "\n") = ((a.length + 1 : Nat) : Int)
    rw [tk, dr]
    exact fin_row h Pa (.inl one_e.2) e_free feb (by simp)
  by_cases w15 : way = 15
  · subst w15
    show toldT (Txt.join "\n" ((rowsT r (a ++ e :: b) g t).take (a.length + 1) ++ (rowsT r (a ++ e :: b) g t).drop (a.length + 1 + 1)) ++ "\n") = if a.length + 1 = 0 then 0 else -1
    rw [tk, dr1, if_neg (by omega)]
    have sub : (a ++ b).Sublist (a ++ e :: b) := List.Sublist.append (List.Sublist.refl _) (List.sublist_cons_self _ _)
    refine fin_ok h (P.sub sub) ?_ (by simp)
    have := G.sm
    rw [sum_app, sumC_cons] at this
    rw [sum_app]
    omega
  by_cases w16 : way = 16
  · subst w16
    show toldT (Txt.join "\n" ((rowsT r (a ++ e :: b) g t).take (a.length + 1) ++ (((rowsT r (a ++ e :: b) g t).drop (a.length + 1)).take 2).reverse ++ (rowsT r (a ++ e :: b) g t).drop (a.length + 1 + 2)) ++ "\n") = if a.length + 1 + 1 = (rowsT r (a ++ e :: b) g t).length then -1 else if a.length + 1 = 0 then 0 else ((a.length + 1 : Nat) : Int) + 1
    have dr2 : (rowsT r (a ++ e :: b) g t).drop (a.length + 1 + 2) = (b.drop 1).map rowT := by
      rw [← List.drop_drop, dr, List.map_drop]
      rfl
    have rl : (rowsT r (a ++ e :: b) g t).length = a.length + 1 + (b.length + 1) := by
      rw [rw0]
      simp only [List.length_cons, List.length_append, List.length_map]
      omega
    rw [tk, dr, dr2, rl]
    cases b with
    | nil =>
      rw [if_pos (by rw [List.length_nil])]
      exact fin_ok h P G.sm (by simp)
    | cons f b =>
      rw [if_neg (by rw [List.length_cons]; omega), if_neg (by omega)]
      have asc : slt e.1 f.1 = true := ((List.pairwise_cons.mp (List.pairwise_append.mp P.asc).2.1).1 f (List.mem_cons_self ..))
      have sub : (a ++ [f]).Sublist (a ++ e :: f :: b) := List.Sublist.append (List.Sublist.refl _) (List.singleton_sublist.mpr (List.mem_cons_of_mem _ (List.mem_cons_self ..)))
      have := fin_row h (c := a ++ [f]) (P.sub sub) (x := rowT e) (post := b.map rowT) (.inr ⟨e, pe, .inl (by rw [lastN_snoc]; exact slt_asym _ _ asc)⟩) fe (fun y hy => fb y (List.mem_cons_of_mem _ hy)) (rows := headT r g t :: a.map rowT ++ ((rowT e :: (f :: b).map rowT).take 2).reverse ++ ((f :: b).drop 1).map rowT) (by simp)
      rw [this, List.length_append]
      show ((a.length + 1 + 1 : Nat) : Int) = _
      omega
  by_cases w17 : way = 17
  · subst w17
    show toldT (Txt.join "\n" ((rowsT r (a ++ e :: b) g t).take (a.length + 1) ++ [Txt.join " " ((Txt.split ((rowsT r (a ++ e :: b) g t).getD (a.length + 1) "") " ").take 1 ++ [("0" : Str)] ++ (Txt.split ((rowsT r (a ++ e :: b) g t).getD (a.length + 1) "") " ").drop 2)] ++ (rowsT r (a ++ e :: b) g t).drop (a.length + 1 + 1)) ++ "\n") = ((a.length + 1 : Nat) : Int)
    rw [tk, dr1, gd, split_row me.1 (by omega)]
    have ok : ∀ w ∈ [e.1, ("0" : Str)], WdOk w := fun w hw => by
      simp only [List.mem_cons, List.not_mem_nil, or_false] at hw
      rcases hw with rfl | rfl
      · exact name_wd me.1
      · exact wd_0
    exact fin_row h Pa (x := Txt.join " " [e.1, ("0" : Str)]) (.inl (none_pair (by simp) ok (none_two zero_none))) (words_free ok) fb (by simp)
  by_cases w18 : way = 18
  · subst w18
    show toldT (Txt.join "\n" ([Txt.join " " ([("desk" : Str), "51"] ++ (Txt.split (headT r g t) " ").drop 2)] ++ (a ++ e :: b).map rowT) ++ "\n") = 0
    rw [split_head r0 h.g0 h.t0]
    have ok : ∀ w ∈ [("desk" : Str), "51", numS g, numS t], WdOk w := fun w hw => by
      simp only [List.mem_cons, List.not_mem_nil, or_false] at hw
      rcases hw with rfl | rfl | rfl | rfl
      · exact desk_wd
      · unfold WdOk; decide +kernel
      · exact num_wd h.g0
      · exact num_wd h.t0
    refine fin_head (none_head (by simp) ok ?_) (words_free ok) pf
    show (if ("desk" : Str) = "desk" then _ else none) = none
    rw [if_pos rfl, show numOf "51" 1 50 = none by decide +kernel]
    rfl
  obtain ⟨ws, e1, hn, ok, no⟩ := chg_bad R (way := way) (by omega) (by omega)
  have e2 : spoilt (rowsT r (a ++ e :: b) g t) (a.length + 1) way "abcdefghi" = (headT r g t :: (a.map rowT ++ Txt.join " " ws :: b.map rowT), ((a.length + 1 : Nat) : Int)) := by
    unfold spoilt
    rw [if_neg w0, if_neg w1, if_neg w2, if_neg w15, if_neg w16, if_neg w17, if_neg w18, tk, dr1, gd, row_join, e1]
    simp
  rw [e2]
  exact fin_row h Pa (.inl (none_pair hn ok no)) (words_free ok) fb rfl
/-- what a spoilt text is told -/
theorem spoilt_told (G : Good r c g t) {k way : Nat} (hk : k < (rowsT r c g t).length) (hw : way < 19) : toldT (Txt.join "\n" (spoilt (rowsT r c g t) k way "abcdefghi").1 ++ "\n") = (spoilt (rowsT r c g t) k way "abcdefghi").2 := by
  cases k with
  | zero => exact spoilt_head G hw
  | succ j =>
    have hj : j < c.length := by
      unfold rowsT at hk
      rw [List.length_cons, List.length_map] at hk
      omega
    have hc : c = c.take j ++ c[j] :: c.drop (j + 1) := by rw [← List.drop_eq_getElem_cons hj, List.take_append_drop]
    have lj : (c.take j).length = j := by rw [List.length_take]; omega
    generalize c.take j = a at hc lj
    generalize c[j] = e at hc
    generalize c.drop (j + 1) = b at hc
    subst hc
    subst lj
    exact spoilt_row G hw
end
end DK

set_option Elab.async false
set_option linter.all false
set_option maxRecDepth 100000
set_option maxHeartbeats 4000000
namespace DK
open PySem PySem.Spec PyProof.Rows L2
open PySem.Builtin PySem.Builtin.Str
/-! ### how long a spoilt text is -/
theorem joinL_len (S : List Nat) : ∀ ps : List (List Nat), (TL.joinL S ps).length ≤ (ps.map (·.length)).sum + ps.length * S.length
  | [] => Nat.zero_le _
  | [a] => by
    show a.length ≤ (a.length + 0) + 1 * S.length
    omega
  | a :: b :: r => by
    have ih := joinL_len S (b :: r)
    show (a ++ (S ++ TL.joinL S (b :: r))).length ≤ (a.length + ((b :: r).map (·.length)).sum) + ((b :: r).length + 1) * S.length
    rw [List.length_append, List.length_append, Nat.succ_mul]
    omega
theorem join_len (y : Str) (ps : List Str) : (Txt.join y ps).length ≤ (ps.map (·.length)).sum + ps.length * y.length := by
  have h := joinL_len (cs y) (ps.map cs)
  rw [cs_len, cs_join, cs_len]
  have e : (ps.map cs).map (·.length) = ps.map (·.length) := by
    rw [List.map_map]
    refine List.map_congr_left fun p _ => ?_
    exact (cs_len p).symm
  rw [e, List.length_map] at h
  exact h
theorem rep1_len (x y z : Str) : (rep1 x y z).length ≤ x.length + z.length := by
  unfold rep1
  split
  · omega
  · have h1 := StrLaws.occ_length_le x y 0 x.length 1
    have hy : (glued y (partsBetween x (occurrences x y 0 x.length 1) y.length)).length = x.length := by rw [StrLaws.glued_between_self]
    rw [size_glued, length_partsBetween, Nat.add_sub_cancel] at hy
    rw [size_glued, length_partsBetween, Nat.add_sub_cancel]
    have h2 : (occurrences x y 0 x.length 1).length * z.length ≤ 1 * z.length := Nat.mul_le_mul_right _ h1
    omega
theorem parts_len {ws : List Str} {n : Nat} (h : ∀ w ∈ ws, w.length ≤ 250) (hl : ws.length ≤ 256) : (Txt.join " " ws).length ≤ 64256 := by
  have h1 := join_len " " ws
  have h2 := sum_len_le h
  have h3 : (" " : Str).length = 1 := by decide +kernel
  rw [h3] at h1
  have h4 : ws.length * 250 ≤ 256 * 250 := Nat.mul_le_mul_right _ hl
  omega
theorem split_sz {row : Str} (h : row.length ≤ 250) : (∀ w ∈ Txt.split row " ", w.length ≤ 250) ∧ (Txt.split row " ").length ≤ 252 := ⟨fun w hw => by have := split_le hw; omega, by have := split_size row " "; omega⟩
theorem chg_len {row long : Str} {way : Nat} (h : row.length ≤ 250) (hl : long.length ≤ 250) : (chg row way long).length ≤ 64256 := by
  have sp := split_sz h
  have l1 : (" " : Str).length = 1 := by decide +kernel
  have l2 : ("  " : Str).length = 2 := by decide +kernel
  have l3 : ("0 1" : Str).length = 3 := by decide +kernel
  have l4 : (" 0" : Str).length = 2 := by decide +kernel
  have l5 : ("\t" : Str).length = 1 := by decide +kernel
  have l6 : ("." : Str).length = 1 := by decide +kernel
  have l7 : (" -" : Str).length = 2 := by decide +kernel
  have l8 : great70.length = 72 := by decide +kernel
  have get : ∀ (xs : List Str) (k : Nat), (∀ x ∈ xs, x.length ≤ 64256) → (xs.getD k "").length ≤ 64256 := fun xs k hx => by
    rw [List.getD_eq_getElem?_getD]
    cases hg : xs[k]? with
    | none => exact (by decide +kernel : ("" : Str).length ≤ 64256)
    | some x => exact hx x (List.mem_of_getElem? hg)
  unfold chg
  split
  · refine parts_len (n := 0) (fun w hw => ?_) (by simp only [List.length_append, List.length_drop, List.length_cons, List.length_nil]; omega)
    rcases List.mem_append.mp hw with hw | hw
    · rw [List.mem_singleton.mp hw]
      exact hl
    · exact sp.1 w (List.mem_of_mem_drop hw)
  · split
    · refine parts_len (n := 0) (fun w hw => ?_) (by simp only [List.length_append, List.length_dropLast, List.length_cons, List.length_nil]; omega)
      rcases List.mem_append.mp hw with hw | hw
      · exact sp.1 w (List.dropLast_subset _ hw)
      · rw [List.mem_singleton.mp hw, l8]
        decide
    · split
      · refine get _ _ fun x hx => ?_
        unfold chgB at hx
        simp only [List.mem_cons, List.not_mem_nil, or_false] at hx
        rcases hx with rfl | rfl | rfl | rfl | rfl
        · have := rep1_len row " " "\t"
          omega
        · have := PyProof.Rows.len_upper row
          omega
        · rw [str_len_app]
          omega
        · cases hs : Txt.split row " " with
          | nil => exact (by decide +kernel : ("" : Str).length ≤ 64256)
          | cons a l =>
            have := sp.1 a (by rw [hs]; exact List.mem_cons_self ..)
            show a.length ≤ _
            omega
        · have := rep1_len row " " " -"
          omega
      · refine get _ _ fun x hx => ?_
        unfold chgA at hx
        simp only [List.mem_cons, List.not_mem_nil, or_false] at hx
        rcases hx with rfl | rfl | rfl | rfl | rfl
        · rw [str_len_app]; omega
        · rw [str_len_app]; omega
        · have := rep1_len row " " "  "
          omega
        · rw [str_len_app]; omega
        · have := rep1_len row " " " 0"
          omega
theorem size3 {A M B : List Str} (hA : ∀ x ∈ A, x.length ≤ 250) (hB : ∀ x ∈ B, x.length ≤ 250) (la : A.length ≤ 60) (lb : B.length ≤ 60) (lm : M.length ≤ 2) (hM : (M.map (·.length)).sum ≤ 64256) : ((A ++ M ++ B).map (·.length)).sum + (A ++ M ++ B).length ≤ 99000 := by
  have h3 := sum_len_le hA
  have h4 := sum_len_le hB
  have h5 : A.length * 250 ≤ 60 * 250 := Nat.mul_le_mul_right _ la
  have h6 : B.length * 250 ≤ 60 * 250 := Nat.mul_le_mul_right _ lb
  simp only [List.map_append, List.sum_append, List.length_append]
  omega
theorem spoilt_size {rows : List Str} {k way : Nat} {long : Str} (hr : ∀ x ∈ rows, x.length ≤ 250) (hl : rows.length ≤ 60) (hg : long.length ≤ 250) : ((spoilt rows k way long).1.map (·.length)).sum + (spoilt rows k way long).1.length ≤ 99000 ∧ (spoilt rows k way long).1.length ≤ 122 := by
  have gd : ∀ j, (rows.getD j "").length ≤ 250 := fun j => by
    rw [List.getD_eq_getElem?_getD]
    cases h : rows[j]? with
    | none => exact (by decide +kernel : ("" : Str).length ≤ 250)
    | some x => exact hr x (List.mem_of_getElem? h)
  have tk : ∀ j, (∀ x ∈ rows.take j, x.length ≤ 250) ∧ (rows.take j).length ≤ 60 := fun j => ⟨fun x hx => hr x (List.mem_of_mem_take hx), by rw [List.length_take]; omega⟩
  have dr : ∀ j, (∀ x ∈ rows.drop j, x.length ≤ 250) ∧ (rows.drop j).length ≤ 60 := fun j => ⟨fun x hx => hr x (List.mem_of_mem_drop hx), by rw [List.length_drop]; omega⟩
  have one : ∀ (x : Str) (i j : Nat), x.length ≤ 64256 → ((rows.take i ++ [x] ++ rows.drop j).map (·.length)).sum + (rows.take i ++ [x] ++ rows.drop j).length ≤ 99000 ∧ (rows.take i ++ [x] ++ rows.drop j).length ≤ 122 := fun x i j hx => ⟨size3 (tk i).1 (dr j).1 (tk i).2 (dr j).2 (by show 1 ≤ 2; decide) (by show x.length + 0 ≤ _; omega), by
    have := (tk i).2
    have := (dr j).2
    rw [List.length_append, List.length_append, List.length_singleton]
    omega⟩
  have two : ∀ (M : List Str) (i j : Nat), (∀ x ∈ M, x.length ≤ 250) → M.length ≤ 2 → ((rows.take i ++ M ++ rows.drop j).map (·.length)).sum + (rows.take i ++ M ++ rows.drop j).length ≤ 99000 ∧ (rows.take i ++ M ++ rows.drop j).length ≤ 122 := fun M i j hM lm => ⟨size3 (tk i).1 (dr j).1 (tk i).2 (dr j).2 lm (by
    have := sum_len_le hM
    have : M.length * 250 ≤ 2 * 250 := Nat.mul_le_mul_right _ lm
    omega), by
    have := (tk i).2
    have := (dr j).2
    rw [List.length_append, List.length_append]
    omega⟩
  unfold spoilt
  split
  · exact one _ _ _ (by decide +kernel)
  split
  · exact one _ _ _ (by have := gd k; omega)
  split
  · exact one _ _ _ (by decide +kernel)
  split
  · have := two [] k (k + 1) (fun _ h => nomatch h) (by decide)
    rw [List.append_nil] at this
    exact this
  split
  · refine two _ _ _ (fun x hx => ?_) (by rw [List.length_reverse, List.length_take]; omega)
    exact hr x (List.mem_of_mem_drop (List.mem_of_mem_take (List.mem_reverse.mp hx)))
  split
  · have sp := split_sz (gd k)
    refine one _ _ _ (parts_len (n := 0) (fun w hw => ?_) (by simp only [List.length_append, List.length_take, List.length_drop, List.length_cons, List.length_nil]; omega))
    rcases List.mem_append.mp hw with hw | hw
    · rcases List.mem_append.mp hw with hw | hw
      · exact sp.1 w (List.mem_of_mem_take hw)
      · rw [List.mem_singleton.mp hw]
        decide +kernel
    · exact sp.1 w (List.mem_of_mem_drop hw)
  split
  · have sp := split_sz (gd 0)
    have := one (Txt.join " " ([("desk" : Str), "51"] ++ (Txt.split (rows.getD 0 "") " ").drop 2)) 0 1 (parts_len (n := 0) (fun w hw => ?_) (by simp only [List.length_append, List.length_drop, List.length_cons, List.length_nil]; omega))
    · rw [List.take_zero, List.nil_append] at this
      exact this
    · rcases List.mem_append.mp hw with hw | hw
      · simp only [List.mem_cons, List.not_mem_nil, or_false] at hw
        rcases hw with rfl | rfl <;> decide +kernel
      · exact sp.1 w (List.mem_of_mem_drop hw)
  · exact one _ _ _ (chg_len (gd k) hg)
/-! ### the further texts of the law -/
section
variable {r g t : Int} {c : CM}
theorem told_text (G : Good r c g t) : toldT (textT r c g t) = -1 := by
  rw [text_join]
  exact fin_ok G.hd G.pre G.sm rfl
theorem told_high (G : Good r c g t) (h1 : 1 ≤ t) (hs : sumC c + (r + 1) * g = t) : toldT (Txt.join "\n" (headT r g (t - 1) :: c.map rowT) ++ "\n") = ((rowsT r c g t).length : Int) := by
  have h : HdOk r g (t - 1) := ⟨G.r1, G.r2, G.g0, G.g1, by omega, by have := G.t1; omega⟩
  unfold toldT
  rw [split_rows (by simp) fun y hy => by
    rcases List.mem_cons.mp hy with rfl | hy
    · exact h.free
    · exact pre_free G.pre y hy]
  rw [List.cons_append, read_over h G.pre (by omega)]
  show ((c.length + 1 : Nat) : Int) = _
  unfold rowsT
  rw [List.length_cons, List.length_map]
theorem told_noend (G : Good r c g t) : toldT (Txt.join "\n" (rowsT r c g t)) = ((rowsT r c g t).length : Int) := by
  unfold toldT
  rw [split_rows' (by unfold rowsT; simp) fun y hy => by
    rcases List.mem_cons.mp hy with rfl | hy
    · exact G.hd.free
    · exact pre_free G.pre y hy]
  unfold rowsT
  rw [read_noend G.hd G.pre, List.length_cons, List.length_map]
  rfl
theorem told_x (G : Good r c g t) : toldT (Txt.join "\n" (rowsT r c g t) ++ "x") = ((rowsT r c g t).length : Int) - 1 := by
  have h := G.hd
  have r0 : 0 ≤ r := by have := h.r1; omega
  have xw : WdOk "x" := by unfold WdOk; decide +kernel
  have xm : ∀ w : Str, 120 ∈ cs (w ++ "x") := fun w => by
    rw [cs_app, show cs ("x" : Str) = [120] by decide +kernel]
    exact List.mem_append_right _ (List.mem_singleton.mpr rfl)
  rcases List.eq_nil_or_concat c with rfl | ⟨d, e, rfl⟩
  · have e1 : Txt.join "\n" (rowsT r [] g t) ++ "x" = Txt.join "\n" [headT r g t ++ "x"] := rfl
    have hx : headT r g t ++ "x" = Txt.join " " ([("desk" : Str), numS r, numS g] ++ [numS t ++ "x"]) := (join_post " " "x" (numS t) [("desk" : Str), numS r, numS g]).symm
    have ok : ∀ w ∈ [("desk" : Str), numS r, numS g] ++ [numS t ++ "x"], WdOk w := fun w hw => by
      simp only [List.cons_append, List.nil_append, List.mem_cons, List.not_mem_nil, or_false] at hw
      rcases hw with rfl | rfl | rfl | rfl
      · exact desk_wd
      · exact num_wd r0
      · exact num_wd h.g0
      · exact wd_app (num_wd h.t0) xw
    unfold toldT
    rw [e1, split_rows' (by simp) fun y hy => by
      rw [List.mem_singleton.mp hy, hx]
      exact words_free ok]
    rw [read_head (by rw [hx]; exact none_head (by simp) ok (none_last fun lo => num_no_digit (xm _) (by decide)))]
    rfl
  · rw [List.concat_eq_append] at G ⊢
    have me := G.pre.ok e (List.mem_append_right _ (List.mem_singleton.mpr rfl))
    have e0 : rowsT r (d ++ [e]) g t = (headT r g t :: d.map rowT) ++ [rowT e] := by
      unfold rowsT
      rw [List.map_append]
      rfl
    have e1 : Txt.join "\n" (rowsT r (d ++ [e]) g t) ++ "x" = Txt.join "\n" ((headT r g t :: d.map rowT) ++ [rowT e ++ "x"]) := by rw [e0, join_post]
    have hx : rowT e ++ "x" = Txt.join " " ([e.1] ++ [numS e.2 ++ "x"]) := by rw [row_join, join_post]; rfl
    have ok : ∀ w ∈ [e.1] ++ [numS e.2 ++ "x"], WdOk w := fun w hw => by
      simp only [List.cons_append, List.nil_append, List.mem_cons, List.not_mem_nil, or_false] at hw
      rcases hw with rfl | rfl
      · exact name_wd me.1
      · exact wd_app (num_wd (by omega)) xw
    have Pd : Pre r d := G.pre.sub (List.sublist_append_left _ _)
    unfold toldT
    rw [e1, split_rows' (by simp) fun y hy => by
      rcases List.mem_append.mp hy with hy | hy
      · rcases List.mem_cons.mp hy with rfl | hy
        · exact h.free
        · exact pre_free Pd y hy
      · rw [List.mem_singleton.mp hy, hx]
        exact words_free ok]
    rw [List.cons_append, read_bad (post := []) h Pd (fun q => absurd q.2 (fun z => by
      have := xm (rowT e)
      rw [z] at this
      exact absurd this (by decide +kernel))) (.inl (by rw [hx]; exact none_pair (by simp) ok (none_last fun lo => num_no_digit (xm _) (by decide))))]
    show ((d.length + 1 : Nat) : Int) = _
    rw [e0, List.length_append, List.length_cons, List.length_map, List.length_singleton]
    omega
theorem told_zz (G : Good r c g t) (hr : (c.length : Int) = r) : toldT (textT r c g t ++ "zzzzzzzz 1\n") = ((rowsT r c g t).length : Int) := by
  have zr : rowT ("zzzzzzzz", 1) = ("zzzzzzzz 1" : Str) := by decide +kernel
  have zn : isName "zzzzzzzz" = true := by decide +kernel
  have e : textT r c g t ++ "zzzzzzzz 1\n" = Txt.join "\n" (headT r g t :: (c.map rowT ++ rowT ("zzzzzzzz", 1) :: [])) ++ "\n" := by
    rw [text_join, show ("zzzzzzzz 1\n" : Str) = "zzzzzzzz 1" ++ "\n" by decide +kernel, ← zr]
    show _ = Txt.join "\n" ((headT r g t :: c.map rowT) ++ [rowT ("zzzzzzzz", 1)]) ++ "\n"
    rw [join_more _ _ _ (by simp), app_assoc, app_assoc, app_assoc]
    rfl
  rw [e, fin_row G.hd G.pre (.inr ⟨("zzzzzzzz", 1), pair_of_row zn (by decide) (by decide), .inr hr⟩) (row_free zn (by decide)) (fun _ h => by cases h) rfl]
  unfold rowsT
  rw [List.length_cons, List.length_map]
end
def great69 : Str := "1" ++ PySem.Txt.mul "0" 69
theorem told_g0 : toldT ("desk 1 0 " ++ great69 ++ "0\n") = -1 := by decide +kernel
theorem told_g1 : toldT ("desk 1 0 " ++ great69 ++ "1\n") = 0 := by decide +kernel
theorem fold_rep (c : Nat) : ∀ (n : Nat) (acc : Array Nat), ((List.replicate n #[c]).foldl (· ++ ·) acc).toList = acc.toList ++ List.replicate n c
  | 0, acc => by
    rw [List.replicate_zero, List.replicate_zero, List.append_nil]
    rfl
  | n + 1, acc => by
    rw [List.replicate_succ, List.foldl_cons, fold_rep c n, List.replicate_succ, Array.toList_append, List.append_assoc]
    rfl
theorem ones_cs : cs (PySem.Txt.mul "1" 5000) = List.replicate 5000 49 := by
  have e : ("1" : Str).cps = #[49] := by decide +kernel
  unfold PySem.Txt.mul
  rw [if_neg (by decide), if_neg (by rw [show ("1" : Str).length = 1 by decide +kernel]; decide), e]
  show ((List.replicate 5000 #[49]).foldl (· ++ ·) #[]).toList = _
  rw [fold_rep]
  rfl
theorem told_ones : toldT ("desk 1 0 " ++ PySem.Txt.mul "1" 5000 ++ "\n") = 0 := by
  have ok : ∀ w ∈ [("desk" : Str), "1", "0"] ++ [PySem.Txt.mul "1" 5000], WdOk w := fun w hw => by
    simp only [List.cons_append, List.nil_append, List.mem_cons, List.not_mem_nil, or_false] at hw
    rcases hw with rfl | rfl | rfl | rfl
    · exact desk_wd
    · exact wd_1
    · exact wd_0
    · intro c hc
      rw [ones_cs] at hc
      rw [(List.mem_replicate.mp hc).2]
      decide
  have hx : ("desk 1 0 " : Str) ++ PySem.Txt.mul "1" 5000 = Txt.join " " ([("desk" : Str), "1", "0"] ++ [PySem.Txt.mul "1" 5000]) := by
    rw [join_more _ _ _ (by simp), show ("desk 1 0 " : Str) = Txt.join " " [("desk" : Str), "1", "0"] ++ " " by decide +kernel, app_assoc]
  rw [hx]
  exact fin_head (x := Txt.join " " ([("desk" : Str), "1", "0"] ++ [PySem.Txt.mul "1" 5000])) (rest := []) (none_head (by simp) ok (none_last fun lo => num_long (by rw [cs_len, ones_cs, List.length_replicate]; decide))) (words_free ok) fun _ h => nomatch h
end DK

set_option maxHeartbeats 8000000
namespace DK
open PySem PySem.Spec PyProof.Rows L2
def top (i : Nat) : Stmt := PySem.Challenge.pw_drawerdesk_k13_read_refused.main.body.getD i (.Pass ⟨0, 0, 0, 0⟩)
abbrev sNoTextInit : Stmt := inClass (top 8) 0
abbrev pNoTextInit : List Str := ["self", "row"]
abbrev nNoTextInit : List Str := ["self", "row"]
theorem cNoTextInit : FnScope nNoTextInit pNoTextInit (defScope sNoTextInit) := ⟨rfl, rfl, rfl, by decide +kernel, rfl, by decide +kernel, by decide +kernel⟩
abbrev sIsWhole : Stmt := top 14
abbrev pIsWhole : List Str := ["thing"]
abbrev nIsWhole : List Str := ["thing"]
theorem cIsWhole : FnScope nIsWhole pIsWhole (defScope sIsWhole) := ⟨rfl, rfl, rfl, by decide +kernel, rfl, by decide +kernel, by decide +kernel⟩
abbrev sIsName : Stmt := top 15
abbrev pIsName : List Str := ["thing"]
abbrev nIsName : List Str := ["thing"]
theorem cIsName : FnScope nIsName pIsName (defScope sIsName) := ⟨rfl, rfl, rfl, by decide +kernel, rfl, by decide +kernel, by decide +kernel⟩
abbrev sNeedComing : Stmt := top 16
abbrev pNeedComing : List Str := ["name", "weight"]
abbrev nNeedComing : List Str := ["name", "weight"]
theorem cNeedComing : FnScope nNeedComing pNeedComing (defScope sNeedComing) := ⟨rfl, rfl, rfl, by decide +kernel, rfl, by decide +kernel, by decide +kernel⟩
abbrev sNeedDrawers : Stmt := top 17
abbrev pNeedDrawers : List Str := ["drawers"]
abbrev nNeedDrawers : List Str := ["drawers"]
theorem cNeedDrawers : FnScope nNeedDrawers pNeedDrawers (defScope sNeedDrawers) := ⟨rfl, rfl, rfl, by decide +kernel, rfl, by decide +kernel, by decide +kernel⟩
abbrev sLowered : Stmt := top 18
abbrev pLowered : List Str := ["counts", "less"]
abbrev nLowered : List Str := ["counts", "less", "found", "name", "count"]
theorem cLowered : FnScope nLowered pLowered (defScope sLowered) := ⟨rfl, rfl, rfl, by decide +kernel, rfl, by decide +kernel, by decide +kernel⟩
abbrev sDInit : Stmt := inClass (top 19) 0
abbrev pDInit : List Str := ["self", "drawers"]
abbrev nDInit : List Str := ["self", "drawers"]
theorem cDInit : FnScope nDInit pDInit (defScope sDInit) := ⟨rfl, rfl, rfl, by decide +kernel, rfl, by decide +kernel, by decide +kernel⟩
abbrev sDCome : Stmt := inClass (top 19) 1
abbrev pDCome : List Str := ["self", "name", "weight"]
abbrev nDCome : List Str := ["self", "name", "weight", "less"]
theorem cDCome : FnScope nDCome pDCome (defScope sDCome) := ⟨rfl, rfl, rfl, by decide +kernel, rfl, by decide +kernel, by decide +kernel⟩
abbrev sDShown : Stmt := inClass (top 19) 2
abbrev pDShown : List Str := ["self"]
abbrev nDShown : List Str := ["self"]
theorem cDShown : FnScope nDShown pDShown (defScope sDShown) := ⟨rfl, rfl, rfl, by decide +kernel, rfl, by decide +kernel, by decide +kernel⟩
abbrev sDLost : Stmt := inClass (top 19) 3
abbrev pDLost : List Str := ["self"]
abbrev nDLost : List Str := ["self"]
theorem cDLost : FnScope nDLost pDLost (defScope sDLost) := ⟨rfl, rfl, rfl, by decide +kernel, rfl, by decide +kernel, by decide +kernel⟩
abbrev sDWeight : Stmt := inClass (top 19) 4
abbrev pDWeight : List Str := ["self"]
abbrev nDWeight : List Str := ["self"]
theorem cDWeight : FnScope nDWeight pDWeight (defScope sDWeight) := ⟨rfl, rfl, rfl, by decide +kernel, rfl, by decide +kernel, by decide +kernel⟩
abbrev sDDrawers : Stmt := inClass (top 19) 5
abbrev pDDrawers : List Str := ["self"]
abbrev nDDrawers : List Str := ["self"]
theorem cDDrawers : FnScope nDDrawers pDDrawers (defScope sDDrawers) := ⟨rfl, rfl, rfl, by decide +kernel, rfl, by decide +kernel, by decide +kernel⟩
abbrev sDLeast : Stmt := inClass (top 19) 6
abbrev pDLeast : List Str := ["self", "name"]
abbrev nDLeast : List Str := ["self", "name"]
theorem cDLeast : FnScope nDLeast pDLeast (defScope sDLeast) := ⟨rfl, rfl, rfl, by decide +kernel, rfl, by decide +kernel, by decide +kernel⟩
abbrev sDMost : Stmt := inClass (top 19) 7
abbrev pDMost : List Str := ["self", "name"]
abbrev nDMost : List Str := ["self", "name"]
theorem cDMost : FnScope nDMost pDMost (defScope sDMost) := ⟨rfl, rfl, rfl, by decide +kernel, rfl, by decide +kernel, by decide +kernel⟩
abbrev sDeskOf : Stmt := top 20
abbrev pDeskOf : List Str := ["drawers", "counts", "gone", "total"]
abbrev nDeskOf : List Str := ["drawers", "counts", "gone", "total", "found", "falling", "less"]
theorem cDeskOf : FnScope nDeskOf pDeskOf (defScope sDeskOf) := ⟨rfl, rfl, rfl, by decide +kernel, rfl, by decide +kernel, by decide +kernel⟩
abbrev sWritten : Stmt := top 24
abbrev pWritten : List Str := ["desk"]
abbrev nWritten : List Str := ["desk", "found", "name", "count"]
theorem cWritten : FnScope nWritten pWritten (defScope sWritten) := ⟨rfl, rfl, rfl, by decide +kernel, rfl, by decide +kernel, by decide +kernel⟩
abbrev sNumberOf : Stmt := top 25
abbrev pNumberOf : List Str := ["word", "least", "most"]
abbrev nNumberOf : List Str := ["word", "least", "most", "number"]
theorem cNumberOf : FnScope nNumberOf pNumberOf (defScope sNumberOf) := ⟨rfl, rfl, rfl, by decide +kernel, rfl, by decide +kernel, by decide +kernel⟩
abbrev sHeadOf : Stmt := top 26
abbrev pHeadOf : List Str := ["row"]
abbrev nHeadOf : List Str := ["row", "words", "found"]
theorem cHeadOf : FnScope nHeadOf pHeadOf (defScope sHeadOf) := ⟨rfl, rfl, rfl, by decide +kernel, rfl, by decide +kernel, by decide +kernel⟩
abbrev sPairOf : Stmt := top 27
abbrev pPairOf : List Str := ["row"]
abbrev nPairOf : List Str := ["row", "words", "count"]
theorem cPairOf : FnScope nPairOf pPairOf (defScope sPairOf) := ⟨rfl, rfl, rfl, by decide +kernel, rfl, by decide +kernel, by decide +kernel⟩
abbrev sRead : Stmt := top 28
abbrev pRead : List Str := ["text"]
abbrev nRead : List Str := ["text", "rows", "head", "counts", "last", "at", "pair"]
theorem cRead : FnScope nRead pRead (defScope sRead) := ⟨rfl, rfl, rfl, by decide +kernel, rfl, by decide +kernel, by decide +kernel⟩
abbrev sLMixed : Stmt := top 30
abbrev pLMixed : List Str := ["_law_cell", "_law_k"]
abbrev nLMixed : List Str := ["_law_cell", "_law_k", "_law_mark"]
theorem cLMixed : FnScope nLMixed pLMixed (defScope sLMixed) := ⟨rfl, rfl, rfl, by decide +kernel, rfl, by decide +kernel, by decide +kernel⟩
abbrev sLNames : Stmt := top 31
abbrev pLNames : List Str := ["_law_script"]
abbrev nLNames : List Str := ["_law_script", "_law_letters", "_law_cell", "_law_base", "_law_at", "_law_names_here", "_law_k", "_law_letter", "_law_word"]
theorem cLNames : FnScope nLNames pLNames (defScope sLNames) := ⟨rfl, rfl, rfl, by decide +kernel, rfl, by decide +kernel, by decide +kernel⟩
abbrev sLComing : Stmt := top 32
abbrev pLComing : List Str := ["_law_names_here", "_law_cell", "_law_k"]
abbrev nLComing : List Str := ["_law_names_here", "_law_cell", "_law_k", "_law_mark", "_law_name", "_law_sort", "_law_weight"]
theorem cLComing : FnScope nLComing pLComing (defScope sLComing) := ⟨rfl, rfl, rfl, by decide +kernel, rfl, by decide +kernel, by decide +kernel⟩
abbrev sLDrawers : Stmt := top 33
abbrev pLDrawers : List Str := ["_law_script"]
abbrev nLDrawers : List Str := ["_law_script", "_law_mark"]
theorem cLDrawers : FnScope nLDrawers pLDrawers (defScope sLDrawers) := ⟨rfl, rfl, rfl, by decide +kernel, rfl, by decide +kernel, by decide +kernel⟩
abbrev sLTold : Stmt := top 34
abbrev pLTold : List Str := ["_law_text"]
abbrev nLTold : List Str := ["_law_text", "_law_found", "_law_told_here", "error"]
theorem cLTold : FnScope nLTold pLTold (defScope sLTold) := ⟨rfl, rfl, rfl, by decide +kernel, rfl, by decide +kernel, by decide +kernel⟩
abbrev sLSpoilt : Stmt := top 35
abbrev pLSpoilt : List Str := ["_law_rows", "_law_at", "_law_way", "_law_long"]
abbrev nLSpoilt : List Str := ["_law_rows", "_law_at", "_law_way", "_law_long", "_law_row", "_law_due", "_law_words", "_law_changed", "_law_some"]
theorem cLSpoilt : FnScope nLSpoilt pLSpoilt (defScope sLSpoilt) := ⟨rfl, rfl, rfl, by decide +kernel, rfl, by decide +kernel, by decide +kernel⟩
abbrev sLaw : Stmt := top 36
abbrev pLaw : List Str := ["_law_script"]
abbrev nLaw : List Str := ["_law_script", "_law_names_here", "_law_drawers_here", "_law_desk", "_law_k", "_law_cell", "_law_name", "_law_weight", "_law_text", "_law_rows", "_law_mark", "_law_some", "_law_due", "_law_more", "_law_high", "_law_great"]
theorem cLaw : FnScope nLaw pLaw (defScope sLaw) := ⟨rfl, rfl, rfl, by decide +kernel, rfl, by decide +kernel, by decide +kernel⟩
/-! ### the checks -/
section
variable {P : Program} {w : World} {K : PySem.W.Frag} {mg : Str → Option Value} {base : Heap}
def spWhole (K : PySem.W.Frag) : Sp := fun vs H Q _ => ∃ x, vs = [x] ∧ Thing K H x ∧ Q (.bl (isWholeV x)) H
theorem ok_whole {f : Addr} {fd : FuncData} (F : Fun K "is_whole" "is_whole" sIsWhole f fd) (mI : mg "isinstance" = none) (mi : mg "int" = none) (mb : mg "bool" = none) : FnOk P w K mg base CX0 1 f fd pIsWhole (spWhole K) := by
  refine F.ok cIsWhole (fun vs H Q E h => ?_) (fun cdv A outer s H vs Q E hr h => ?_)
  · obtain ⟨x, rfl, _⟩ := h
    rfl
  · obtain ⟨x, rfl, ⟨t, ty, k1, k2, k3⟩, q⟩ := h
    refine ⟨_, pss_one (ps_ret (pe_and (pe_callB call_isi (by rfl) mI (by decide +kernel) (pa_cons (pv 0) (pa_cons (pe_bty (n := "int") mi (by decide +kernel) (by rfl)) pa_nil)))
      (pe_one (pe_not (pe_callB call_isi (by rfl) mI (by decide +kernel) (pa_cons (pv 0) (pa_cons (pe_bty (n := "bool") mb (by decide +kernel) (by rfl)) pa_nil))))))), ?_⟩
    refine ⟨_, rfl, x, .ty "int", t, .type "int", _, rfl, .ty "int", ty, k2, _, rfl, ?_⟩
    cases x <;> first | exact q | (refine iteT ⟨_, rfl, _, .ty "bool", t, .type "bool", _, rfl, .ty "bool", ty, k3, _, rfl, q⟩)
def spName (K : PySem.W.Frag) : Sp := fun vs H Q _ => ∃ x, vs = [x] ∧ Thing K H x ∧ (∀ z, x = .str z → z.length ≤ sizeLine) ∧ Q (.bl (isNameV x)) H
theorem ok_name {f : Addr} {fd : FuncData} (F : Fun K "is_name" "is_name" sIsName f fd) (mI : mg "isinstance" = none) (ms : mg "str" = none) (ml : mg "len" = none) {t8 tL : Tok} (m8 : mg "LONGEST" = some (.int 8 t8)) (mL : mg "LETTERS" = some (.str letters tL)) : FnOk P w K mg base CX0 1 f fd pIsName (spName K) := by
  refine F.ok cIsName (fun vs H Q E h => ?_) (fun cdv A outer s H vs Q E hr h => ?_)
  · obtain ⟨x, rfl, _⟩ := h
    rfl
  · obtain ⟨x, rfl, ⟨t, ty, k1, k2, k3⟩, hz, q⟩ := h
    refine ⟨_, pss_one (ps_ret (pe_and (pe_callB call_isi (by rfl) mI (by decide +kernel) (pa_cons (pv 0) (pa_cons (pe_bty (n := "str") ms (by decide +kernel) (by rfl)) pa_nil)))
      (pe_and (pe_chain op_le op_le pe_int (pe_callB call_len_str (by rfl) ml PySem.boot_len (pa_cons (pv 0) pa_nil)) (pe_gint m8 (by rfl)))
      (pe_one (pe_cmpR op_eq (pe_bm PySem.F.plainAttrs_str PySem.F.slot_str_strip PySem.F.type_str_strip mt_stripChars (pv 0) (pa_cons (pe_gstr mL (by rfl)) pa_nil)) pe_str (nomark _)))))), ?_⟩
    refine ⟨_, rfl, x, .ty "str", t, .type "str", _, rfl, .ty "str", ty, k1, _, rfl, ?_⟩
    cases x <;> first | exact q | skip
    rename_i z
    have hz := hz z rfl
    refine iteT ?_
    refine ⟨_, rfl, z, rfl, hz, _, _, rfl, rfl, _, rfl, ?_⟩
    refine ite2 (fun h1 => ?_) (fun h1 => ?_)
    · refine ⟨_, _, rfl, rfl, _, rfl, ?_⟩
      refine ite2 (fun h2 => ?_) (fun h2 => ?_)
      · refine ⟨_, rfl, rfl, _, _, rfl, rfl, hz, rfl, ?_⟩
        have e1 := of_decide_eq_true h1
        have e2 := of_decide_eq_true h2
        have e3 : isNameV (.str z) = decide (V.str (PySem.Txt.stripChars z letters) = V.str "") := by
          rw [strip_letters]
          show (decide (1 ≤ z.length ∧ z.length ≤ 8) && _) = _
          rw [decide_eq_true (show 1 ≤ z.length ∧ z.length ≤ 8 by omega), Bool.true_and]
        rw [← e3]
        exact q
      · have e2 := of_decide_eq_false (Bool.eq_false_iff.mpr h2)
        have e3 : isNameV (.str z) = false := by
          show (decide (1 ≤ z.length ∧ z.length ≤ 8) && _) = _
          rw [decide_eq_false (show ¬ (1 ≤ z.length ∧ z.length ≤ 8) by omega), Bool.false_and]
        rw [e3] at q
        exact q
    · have e1 := of_decide_eq_false (Bool.eq_false_iff.mpr h1)
      refine ⟨_, rfl, iteF ?_⟩
      have e3 : isNameV (.str z) = false := by
        show (decide (1 ≤ z.length ∧ z.length ≤ 8) && _) = _
        rw [decide_eq_false (show ¬ (1 ≤ z.length ∧ z.length ≤ 8) by omega), Bool.false_and]
      rw [e3] at q
      exact q
/-- a coming's name and weight -/
def spNeedComing (K : PySem.W.Frag) (CN CW : Addr) : Sp := fun vs H Q E => ∃ x y, vs = [x, y] ∧ Thing K H x ∧ Thing K H y ∧ (∀ z, x = .str z → z.length ≤ sizeLine) ∧
  (isNameV x = true → isWtV y = true → Q .non H) ∧ (isNameV x = false → E (.ref CN) none H) ∧ (isNameV x = true → isWtV y = false → E (.ref CW) none H)
theorem ok_needComing {CN CW f : Addr} {fd : FuncData} (F : Fun K "need_coming" "need_coming" sNeedComing f fd) (GN : Gf P w K mg base CX0 1 "is_name" pIsName (spName K)) (GW : Gf P w K mg base CX0 1 "is_whole" pIsWhole (spWhole K))
    {tG : Tok} (mG : mg "GREATEST" = some (.int great tG)) (eN : ExT K mg "NoName" CN) (eW : ExT K mg "NoWeight" CW) : FnOk P w K mg base (L2.CX P w) 2 f fd pNeedComing (spNeedComing K CN CW) := by
  obtain ⟨fN, fdN, gN, bN, mN, kN⟩ := GN.ex
  obtain ⟨fW, fdW, gW, bW, mW, kW⟩ := GW.ex
  refine F.okX cNeedComing (fun vs H Q E h => ?_) (fun cdv A outer s H vs Q E hr h => ?_)
  · obtain ⟨x, y, rfl, _⟩ := h
    rfl
  · obtain ⟨x, y, rfl, tx, ty, hz, q1, q2, q3⟩ := h
    refine ⟨_, pss_cons (ps_if (pt_not (pt_val (pe_call gN hr rfl mN kN bN .nil pass0 (pa_cons (pv 0) pa_nil)))) (pss_one (ps_raise rfl (takes_of rfl rfl rfl rfl) (pmk_own PySem.F.excBase_ValueError eN.x eN.g eN.k (raises_own eN.b eN.t) (by rfl)))) pss_nil)
      (pss_one (ps_if (PW.pt (pw_or (pt_not (pt_val (pe_call gW hr rfl mW kW bW .nil pass0 (pa_cons (pv 1) pa_nil))))
        (pw_or1 (pt_not (pt_chain op_le op_le pe_int (pv 1) (pe_gint mG (by rfl)))))))
        (pss_one (ps_raise rfl (takes_of rfl rfl rfl rfl) (pmk_own PySem.F.excBase_ValueError eW.x eW.g eW.k (raises_own eW.b eW.t) (by rfl)))) pss_nil)), ?_⟩
    refine ⟨_, rfl, x, rfl, tx, hz, _, rfl, ?_⟩
    cases hx : isNameV x with
    | false => exact iteT (q2 hx)
    | true =>
      refine iteF ?_
      refine ⟨_, rfl, y, rfl, ty, _, rfl, ?_⟩
      cases y <;> first | exact q3 hx rfl | skip
      rename_i i
      refine iteF ?_
      refine ⟨_, rfl, _, _, rfl, rfl, _, rfl, ?_⟩
      refine ite2 (fun h1 => ?_) (fun h1 => ?_)
      · refine ⟨_, _, rfl, rfl, _, rfl, ?_⟩
        have e1 := of_decide_eq_true h1
        cases h2 : decide (i ≤ great) with
        | true => exact iteF (q1 hx (decide_eq_true ⟨e1, of_decide_eq_true h2⟩))
        | false => exact iteT (q3 hx (decide_eq_false fun z => of_decide_eq_false h2 z.2))
      · have e1 := of_decide_eq_false (Bool.eq_false_iff.mpr h1)
        exact ⟨_, rfl, iteT (q3 hx (decide_eq_false fun z => e1 z.1))⟩
def spNeedDrawers (K : PySem.W.Frag) (CD : Addr) : Sp := fun vs H Q E => ∃ x, vs = [x] ∧ Thing K H x ∧ (isRoomV x = true → Q .non H) ∧ (isRoomV x = false → E (.ref CD) none H)
theorem ok_needDrawers {CD f : Addr} {fd : FuncData} (F : Fun K "need_drawers" "need_drawers" sNeedDrawers f fd) (GW : Gf P w K mg base CX0 1 "is_whole" pIsWhole (spWhole K))
    {tM : Tok} (mM : mg "MOST_DRAWERS" = some (.int 50 tM)) (eD : ExT K mg "NoDesk" CD) : FnOk P w K mg base (L2.CX P w) 2 f fd pNeedDrawers (spNeedDrawers K CD) := by
  obtain ⟨fW, fdW, gW, bW, mW, kW⟩ := GW.ex
  refine F.okX cNeedDrawers (fun vs H Q E h => ?_) (fun cdv A outer s H vs Q E hr h => ?_)
  · obtain ⟨x, rfl, _⟩ := h
    rfl
  · obtain ⟨x, rfl, tx, q1, q2⟩ := h
    refine ⟨_, pss_one (ps_if (PW.pt (pw_or (pt_not (pt_val (pe_call gW hr rfl mW kW bW .nil pass0 (pa_cons (pv 0) pa_nil))))
        (pw_or1 (pt_not (pt_chain op_le op_le pe_int (pv 0) (pe_gint mM (by rfl)))))))
        (pss_one (ps_raise rfl (takes_of rfl rfl rfl rfl) (pmk_own PySem.F.excBase_ValueError eD.x eD.g eD.k (raises_own eD.b eD.t) (by rfl)))) pss_nil), ?_⟩
    refine ⟨_, rfl, x, rfl, tx, _, rfl, ?_⟩
    cases x <;> first | exact q2 rfl | skip
    rename_i i
    refine iteF ?_
    refine ⟨_, rfl, _, _, rfl, rfl, _, rfl, ?_⟩
    refine ite2 (fun h1 => ?_) (fun h1 => ?_)
    · refine ⟨_, _, rfl, rfl, _, rfl, ?_⟩
      have e1 := of_decide_eq_true h1
      cases h2 : decide (i ≤ 50) with
      | true => exact iteF (q1 (decide_eq_true ⟨e1, of_decide_eq_true h2⟩))
      | false => exact iteT (q2 (decide_eq_false fun z => of_decide_eq_false h2 z.2))
    · have e1 := of_decide_eq_false (Bool.eq_false_iff.mpr h1)
      exact ⟨_, rfl, iteT (q2 (decide_eq_false fun z => e1 z.1))⟩
end
/-! ### lowered, the Desk -/
section
variable {P : Program} {w : World} {K : PySem.W.Frag} {mg : Str → Option Value} {base : Heap}
/-- a new table: those of the old one that have more, so much less -/
def spLowered : Sp := fun vs H Q _ => ∃ (d : Addr) (c : CM) (m : Int), vs = [.ref d, .int m] ∧ H d = some (.dK (kvc c)) ∧ (keysC c).Nodup ∧ c.length ≤ 1000 ∧
  ∀ (H' : Hp) (d' : Addr), H d' = none → Ex H H' → H' d' = some (.dK (kvc (lowered c m))) → Q (.ref d') H'
theorem ok_lowered {f : Addr} {fd : FuncData} (F : Fun K "lowered" "lowered" sLowered f fd) : FnOk P w K mg base CX0 1 f fd pLowered spLowered := by
  refine F.ok cLowered (fun vs H Q E h => ?_) (fun cdv A outer s H vs Q E hr h => ?_)
  · obtain ⟨d, c, m, rfl, _⟩ := h
    rfl
  · obtain ⟨d, c, m, rfl, hd, nd, hl, q⟩ := h
    have hu := hu_of hr
    refine ⟨_, pss_cons (ps_set (i := 2) cLowered.nd rfl (Or.inl rfl) pe_dnewK)
      (pss_cons (ps_lock (ps_for PassesOwn.never rfl (pi_items (pv 0)) (pg_tup rfl (pgs_cons (pg_name (i := 3) cLowered.nd rfl (Or.inl rfl)) (pgs_cons (pg_name (i := 4) cLowered.nd rfl (Or.inl rfl)) pgs_nil)))
        (pss_one (ps_if (pt_cmpR op_gt (pv 4) (pv 1) (nomark _)) (pss_one (ps_dput hu (pv 2) (pv 3) (pe_op op_sub (pv 4) (pv 1)) rfl)) pss_nil))))
      (pss_one (ps_ret (pv 2)))), ?_⟩
    intro f hf
    have ndf : d ≠ f := ne_of_none hd hf
    refine ⟨d, .dK (kvc c), by rw [upd_ne ndf]; exact hd, trivial, fun od => ⟨_, rfl, d, od, kvc c, rfl, upd_same, ?_⟩⟩
    refine for_it (n := c.length) (fun i σ H2 => ∃ v3 v4, σ = [some (.ref d), some (.int m), some (.ref f), v3, v4] ∧ H2 d = some (.frz od (.dK (kvc c))) ∧ H2 f = some (.dK (kvc (lowered (c.take i) m))) ∧ ∀ b o, b ≠ d → H b = some o → H2 b = some o)
      ⟨none, none, rfl, upd_same, by rw [upd_ne ndf.symm, upd_same]; rfl, fun b o hb e => by rw [upd_ne hb, upd_ne (ne_of_none e hf)]; exact e⟩ ?_ ?_ ?_ ?_
    · rintro i σ H2 hi ⟨v3, v4, rfl, h1, h2, h3⟩
      exact ⟨h1, by rw [len_kvc]; exact hi⟩
    · rintro σ H2 ⟨v3, v4, rfl, h1, h2, h3⟩
      exact ⟨h1, by rw [len_kvc]; exact Nat.le_refl _⟩
    · rintro i σ H2 hi ⟨v3, v4, rfl, h1, h2, h3⟩ x H3 ⟨T, k, v, hk, rfl, hT, rfl⟩
      have ei : c[i]? = some c[i] := List.getElem?_eq_getElem hi
      have e0 : (kvc c)[i]? = some (Sum.inr c[i].1, V.int c[i].2) := by
        unfold kvc
        rw [List.getElem?_map, ei]
        rfl
      rw [e0] at hk
      cases hk
      have nT : T ≠ f := fun z => by rw [z, h2] at hT; cases hT
      have dT : d ≠ T := fun z => by rw [← z, h1] at hT; cases hT
      refine ⟨T, _, rfl, SqT.of upd_same, rfl, _, _, rfl, _, _, rfl, rfl, ?_⟩
      refine ⟨_, rfl, _, rfl, _, _, rfl, rfl, _, rfl, ?_⟩
      have tk : c.take (i + 1) = c.take i ++ [c[i]] := List.take_succ_eq_append_getElem hi
      refine ite2 (fun h => ?_) (fun h => ?_)
      · have hlt : m < c[i].2 := of_decide_eq_true h
        refine ⟨_, rfl, _, rfl, _, _, rfl, rfl, _, rfl, _, rfl, f, _, rfl, DPut.of (by rw [upd_ne nT.symm]; exact h2) _ _ (small ?_), ?_⟩
        · have : (lowered (c.take i) m).length ≤ (c.take i).length := by unfold lowered; rw [List.length_map]; exact List.length_filter_le _ _
          have : (c.take i).length ≤ c.length := by rw [List.length_take]; omega
          omega
        · refine ⟨_, _, rfl, by rw [upd_ne ndf, upd_ne dT]; exact h1, ?_, fun b o hb e => ?_⟩
          · rw [upd_same, tk]
            have nk : hasC (lowered (c.take i) m) c[i].1 = false := by
              refine Bool.eq_false_iff.mpr fun hh => ?_
              unfold hasC at hh
              rw [List.any_eq_true] at hh
              obtain ⟨z, hz, ez⟩ := hh
              unfold lowered at hz
              obtain ⟨y, hy, rfl⟩ := List.mem_map.mp hz
              have hy2 := (List.mem_filter.mp hy).1
              obtain ⟨j, hj⟩ := List.mem_iff_getElem?.mp hy2
              have hji : j < i := by
                have := (List.getElem?_eq_some_iff.mp hj).1
                rw [List.length_take] at this
                omega
              rw [List.getElem?_take, if_pos hji] at hj
              have a1 : (keysC c)[j]? = some c[i].1 := by
                unfold keysC
                rw [List.getElem?_map, hj]
                exact congrArg some (of_decide_eq_true ez)
              have a2 : (keysC c)[i]? = some c[i].1 := by
                unfold keysC
                rw [List.getElem?_map, ei]
                rfl
              have := nd_ix nd a1 a2
              omega
            have e2 : putC (lowered (c.take i) m) c[i].1 (c[i].2 - m) = lowered (c.take i ++ [c[i]]) m := by
              unfold putC
              rw [if_neg (by rw [nk]; exact Bool.false_ne_true)]
              unfold lowered
              rw [List.filter_append, List.map_append]
              simp [hlt]
            rw [e2]
          · have hbT : H2 b = some o := h3 b o hb e
            rw [upd_ne (fun z => by rw [z] at e; rw [e] at hf; cases hf), upd_ne (fun z => by rw [z, hT] at hbT; cases hbT)]
            exact hbT
      · have hlt : ¬ m < c[i].2 := fun z => h (decide_eq_true z)
        refine ⟨_, _, rfl, by rw [upd_ne dT]; exact h1, ?_, fun b o hb e => ?_⟩
        · rw [upd_ne nT.symm, h2, tk]
          have e2 : lowered (c.take i ++ [c[i]]) m = lowered (c.take i) m := by
            unfold lowered
            rw [List.filter_append, List.map_append]
            simp [hlt]
          rw [e2]
        · have hbT : H2 b = some o := h3 b o hb e
          rw [upd_ne (fun z => by rw [z, hT] at hbT; cases hbT)]
          exact hbT
    · rintro σ H2 ⟨v3, v4, rfl, h1, h2, h3⟩
      refine ⟨h1, _, rfl, q _ f hf (fun b o e => ?_) ?_⟩
      · by_cases hb : b = d
        · rw [hb, upd_same]
          rw [hb, hd] at e
          exact e
        · rw [upd_ne hb]
          exact h3 b o hb e
      · rw [upd_ne ndf.symm, h2, List.take_of_length_le (Nat.le_refl _)]
end
/-- what is asked of the class Desk and of the names that its methods use -/
structure DkT (K : PySem.W.Frag) (mg : Str → Option Value) (C CN CW CD : Addr) : Prop where
  cl : Cls K C
  nR : NoAttr K C "room"
  nC : NoAttr K C "counts"
  nG : NoAttr K C "gone"
  nT : NoAttr K C "total"
  mgC : mg "Desk" = some (.ref C)
  len : mg "len" = none
  mn : mg "min" = none
  lst : mg "list" = none
  dct : mg "dict" = none
  srt : mg "sorted" = none
  eN : ExT K mg "NoName" CN
  eW : ExT K mg "NoWeight" CW
  eD : ExT K mg "NoDesk" CD
section
variable {P : Program} {w : World} {K : PySem.W.Frag} {mg : Str → Option Value} {base : Heap} {C CN CW CD : Addr}
/-- a fresh Desk -/
def spInit (K : PySem.W.Frag) (C CD : Addr) : Sp := fun vs H Q E => ∃ p x dx, vs = [.ref p, x] ∧ H p = some (.ins C dx []) ∧ Thing K H x ∧
  (∀ r, x = .int r → isRoomV x = true → ∀ (d : Addr) (H' : Hp), H d = none → Off [p] H H' → DeskAt C H' p d r [] 0 0 → Q .non H') ∧ (isRoomV x = false → E (.ref CD) none H)
theorem ok_init {f : Addr} {fd : FuncData} (F : Fun K "__init__" "Desk.__init__" sDInit f fd) (T : DkT K mg C CN CW CD) (GD : Gf P w K mg base (L2.CX P w) 2 "need_drawers" pNeedDrawers (spNeedDrawers K CD)) :
    FnOk P w K mg base (L2.CX P w) 3 f fd pDInit (spInit K C CD) := by
  obtain ⟨fD, fdD, gD, bD, mD, kD⟩ := GD.ex
  refine F.okX cDInit (fun vs H Q E h => ?_) (fun cdv A outer s H vs Q E hr h => ?_)
  · obtain ⟨p, x, dx, rfl, _⟩ := h
    rfl
  · obtain ⟨p, x, dx, rfl, hp, tx, q1, q2⟩ := h
    refine ⟨_, pss_cons (ps_expr (pe_call gD hr rfl mD kD bD .nil (passes_call (takes_of rfl rfl rfl rfl) (fun _ _ _ _ z => z)) (pa_cons (pv 1) pa_nil)))
      (pss_cons (ps_fld (pv 0) (pv 1) rfl) (pss_cons (ps_fld (pv 0) pe_dnewK rfl) (pss_cons (ps_fld (pv 0) pe_int rfl) (pss_one (ps_fld (pv 0) pe_int rfl))))), ?_⟩
    refine ⟨_, rfl, x, rfl, tx, fun hx => ?_, q2⟩
    cases x <;> first | (exact absurd hx Bool.false_ne_true) | skip
    rename_i r
    have hx' := of_decide_eq_true hx
    refine ⟨_, rfl, _, rfl, p, C, dx, _, rfl, hp, T.cl, T.nR, (by show 0 < 1000; decide), ?_⟩
    intro d hd
    have npd : p ≠ d := fun z => by rw [← z, upd_same] at hd; cases hd
    refine ⟨_, rfl, p, C, dx, _, rfl, (by rw [upd_ne npd]; exact upd_same), T.cl, T.nC, (by show 1 < 1000; decide), ?_⟩
    refine ⟨_, rfl, p, C, dx, _, rfl, upd_same, T.cl, T.nG, (by show (putF "counts" (V.ref d) [(("room" : Str), V.int r)]).length < 1000; simp only [putF, if_neg k_ne.1]; show 2 < 1000; decide), ?_⟩
    refine ⟨_, rfl, p, C, dx, _, rfl, upd_same, T.cl, T.nT, (by show (putF "gone" (V.int 0) (putF "counts" (V.ref d) [(("room" : Str), V.int r)])).length < 1000; simp only [putF, if_neg k_ne.1, if_neg k_ne.2.1, if_neg k_ne.2.2.2.1]; show 3 < 1000; decide), ?_⟩
    have hd0 : H d = none := by
      rw [upd_ne npd.symm] at hd
      exact hd
    refine q1 r rfl hx d _ hd0 (fun b o hb e => ?_) ⟨⟨dx, ?_⟩, ?_, List.nodup_nil, (by show ((0 : Nat) : Int) ≤ r; omega), hx'.1, hx'.2⟩
    · have nb : b ≠ p := fun z => hb (by rw [z]; exact List.mem_cons_self ..)
      rw [upd_ne nb, upd_ne nb, upd_ne nb, upd_ne (ne_of_none e hd0), upd_ne nb]
      exact e
    · rw [upd_same, ← dfl_make]
    · rw [upd_ne npd.symm, upd_ne npd.symm, upd_ne npd.symm, upd_same]
      rfl
/-- a coming -/
def spCome (K : PySem.W.Frag) (C CN CW : Addr) : Sp := fun vs H Q E => ∃ p d room c gone total x y, vs = [.ref p, x, y] ∧ DeskAt C H p d room c gone total ∧ Thing K H x ∧ Thing K H y ∧ (∀ z, x = .str z → z.length ≤ sizeLine) ∧
  (∀ n wt, x = .str n → y = .int wt → isName n = true → isWt wt = true → ∀ (H' : Hp) (d' : Addr), (d' = d ∨ H d' = none) → Off [p, d] H H' → DeskAt C H' p d' room (come room c n wt).1 (gone + (come room c n wt).2) (total + wt) → Q .non H') ∧
  (isNameV x = false → E (.ref CN) none H) ∧ (isNameV x = true → isWtV y = false → E (.ref CW) none H)
theorem ok_come {f : Addr} {fd : FuncData} {dvs : List V} (F : FunD K "come" "Desk.come" (defArgs sDCome) (defBody sDCome) (defScope sDCome) dvs [] f fd) (T : DkT K mg C CN CW CD)
    (GN : Gf P w K mg base (L2.CX P w) 2 "need_coming" pNeedComing (spNeedComing K CN CW)) (GL : Gf P w K mg base CX0 1 "lowered" pLowered spLowered) :
    FnOk P w K mg base (L2.CX P w) 3 f fd pDCome (spCome K C CN CW) := by
  obtain ⟨fN, fdN, gN, bN, mN, kN⟩ := GN.ex
  obtain ⟨fL, fdL, gL, bL, mL, kL⟩ := GL.ex
  refine F.ok cDCome (fun vs H Q E h => ?_) (fun cdv A outer s H vs Q E hr h => ?_)
  · obtain ⟨p, d, room, c, gone, total, x, y, rfl, _⟩ := h
    rfl
  · obtain ⟨p, d, room, c, gone, total, x, y, rfl, D, tx, ty, hz, q1, q2, q3⟩ := h
    have hu := hu_of hr
    refine ⟨_, pss_cons (ps_expr (pe_call gN hr rfl mN kN bN .nil (passes_call (takes_of rfl rfl rfl rfl) (fun _ _ _ _ z => z)) (pa_cons (pv 1) (pa_cons (pv 2) pa_nil))))
      (pss_cons (ps_fldaug (pv 0) (pv 2) in_add)
      (pss_cons (ps_if (PW.pt (pw_and (pt_cmp (pc_dnotin hu (pv 1) (pe_fld (pv 0) rfl))) (pw_and1 (pt_cmpR op_eq (pe_callB call_lenD (by rfl) T.len PySem.boot_len (pa_cons (pe_fld (pv 0) rfl) pa_nil)) (pe_fld (pv 0) rfl) (nomark _)))))
        (pss_cons (ps_set (i := 3) cDCome.nd rfl (Or.inl rfl) (pe_callB (cr_min rfl) (by rfl) T.mn (by decide +kernel) (pa_cons (pe_op op_cat (pe_lst (pa_cons (pv 2) pa_nil))
            (pe_callTy (call_listV rfl) (by rfl) T.lst (by decide +kernel) (pa_cons (pe_bm0 PySem.F.plainAttrs_dict PySem.F.slot_dict_values PySem.F.type_dict_values mt_vals (pe_fld (pv 0) rfl)) pa_nil))) pa_nil)))
          (pss_cons (ps_fld (pv 0) (pe_call gL (hr.mono (by decide)) rfl mL kL bL .nil pass0 (pa_cons (pe_fld (pv 0) rfl) (pa_cons (pv 3) pa_nil))) rfl)
          (pss_cons (ps_fldaug (pv 0) (pv 3) in_add)
          (pss_one (ps_aug (i := 2) cDCome.nd rfl (Or.inl rfl) (pv 3) ip_sub)))))
        pss_nil)
      (pss_one (ps_if (pt_cmpR op_gt (pv 2) pe_int (nomark _)) (pss_one (ps_dput hu (pe_fld (pv 0) rfl) (pv 1) (pe_op op_add (pe_dget2 hu (pe_fld (pv 0) rfl) (pv 1) pe_int ⟨rfl, rfl, rfl, rfl⟩) (pv 2)) rfl)) pss_nil)))), ?_⟩
    refine ⟨_, rfl, _, rfl, x, y, rfl, tx, ty, hz, fun hx hy => ?_, q2, q3⟩
    cases x <;> first | (exact absurd hx Bool.false_ne_true) | skip
    cases y <;> first | (exact absurd hy Bool.false_ne_true) | skip
    rename_i n wt
    have hk := q1 n wt rfl rfl hx hy
    have hw := of_decide_eq_true hy
    obtain ⟨⟨dx, hp⟩, hd, nd, hl, r1, r2⟩ := id D
    have npd := D.ne
    -- self.total += weight
    refine ⟨_, rfl, p, C, dx, _, _, rfl, hp, T.cl, T.nT, dfl_total _ _ _ _, _, rfl, _, _, rfl, rfl, dx, _, hp, (by show 4 < 1000; decide), ?_⟩
    rw [dfl_put_total]
    have hd1 : ∀ o, (upd H p o) d = some (.dK (kvc c)) := fun o => by rw [upd_ne npd.symm]; exact hd
    -- name not in self.counts and len(self.counts) == self.room
    refine ⟨_, rfl, _, rfl, p, C, dx, _, _, rfl, upd_same, T.cl, T.nC, dfl_counts _ _ _ _, d, _, rfl, DGet.of (.inl (hd1 _)) n, _, rfl, ?_⟩
    have eh : (!((getC c n).map V.int).isSome) = !hasC c n := by rw [has_get, Option.isSome_map]
    rw [eh]
    -- what the last two rows do, from a table c1 at d1 and a weight w1 that is left
    have last : ∀ (H2 : Hp) (d1 : Addr) (c1 : CM) (g1 w1 : Int) (v3 : Option V), 0 ≤ w1 → (d1 = d ∨ H d1 = none) → Off [p, d] H H2 → H2 p = some (.ins C dx (dfl room d1 g1 (total + wt))) → H2 d1 = some (.dK (kvc c1)) → c1.length ≤ 50 →
        (come room c n wt).1 = (if 0 < w1 then putC c1 n (getD0 c1 n + w1) else c1) → gone + (come room c n wt).2 = g1 →
        (tIfS (tTest (tOp (rI0 fun i j => .bl (decide (j < i))) (tVar 2) (tC (.int 0)))) (sDPut (tFld K (tVar 0) "counts") (tVar 1) (tOp (rI0 fun i j => .int (i + j)) (tDGet2 (tFld K (tVar 0) "counts") (tVar 1) (tC (.int 0))) (tVar 2))) tNext)
          { nx := fun _ H' => Q .non H', rt := Q } [some (.ref p), some (.str n), some (.int w1), v3] H2 := by
      intro H2 d1 c1 g1 w1 v3 h0 hd' off ho hc hlen e1 e2
      have npd1 : p ≠ d1 := ne_of ho hc (fun z => nomatch z)
      refine ⟨_, rfl, _, _, rfl, rfl, _, rfl, ?_⟩
      refine ite2 (fun h => ?_) (fun h => ?_)
      · have hlt : 0 < w1 := of_decide_eq_true h
        rw [if_pos hlt] at e1
        refine ⟨_, rfl, p, C, dx, _, _, rfl, ho, T.cl, T.nC, dfl_counts _ _ _ _, d1, rfl, IsD.of (.inl hc), _, rfl, _, DGet.of (.inl hc) n, ?_⟩
        rw [getD_map]
        refine ⟨_, rfl, _, _, rfl, rfl, _, rfl, p, C, dx, _, _, rfl, ho, T.cl, T.nC, dfl_counts _ _ _ _, _, rfl, d1, _, rfl, DPut.of hc n _ (small (by omega)), ?_⟩
        refine hk _ d1 hd' (fun b o hb e => ?_) ⟨⟨dx, ?_⟩, ?_, come_nodup nd, come_len hl, r1, r2⟩
        · have nb : b ≠ d1 := by
            rcases hd' with z | z
            · rw [z]
              exact fun y => hb (by rw [y]; exact List.mem_cons_of_mem _ (List.mem_cons_self ..))
            · exact ne_of_none e z
          rw [upd_ne nb]
          exact off b o hb e
        · rw [upd_ne npd1, ho, e2]
        · rw [upd_same, e1]
          rfl
      · have hlt : ¬ 0 < w1 := fun z => h (decide_eq_true z)
        rw [if_neg hlt] at e1
        exact hk _ d1 hd' off ⟨⟨dx, by rw [ho, e2]⟩, by rw [hc, e1], come_nodup nd, come_len hl, r1, r2⟩
    have offp : ∀ o, Off [p, d] H (upd H p o) := fun o => Off.upd (List.mem_cons_self ..)
    have plain : ¬ (hasC c n = false ∧ (c.length : Int) = room) → ∀ v3, (tIfS (tTest (tOp (rI0 fun i j => .bl (decide (j < i))) (tVar 2) (tC (.int 0)))) (sDPut (tFld K (tVar 0) "counts") (tVar 1) (tOp (rI0 fun i j => .int (i + j)) (tDGet2 (tFld K (tVar 0) "counts") (tVar 1) (tC (.int 0))) (tVar 2))) tNext)
          { nx := fun _ H' => Q .non H', rt := Q } [some (.ref p), some (.str n), some (.int wt), v3] (upd H p (.ins C dx (dfl room d gone (total + wt)))) := fun hn v3 => by
      refine last _ d c gone wt v3 (by omega) (.inl rfl) (offp _) upd_same (hd1 _) D.len ?_ ?_
      · unfold come
        rw [if_neg hn, if_pos (by omega)]
      · unfold come
        rw [if_neg hn]
        exact Int.add_zero _
    cases hh : hasC c n with
    | true => exact iteF (iteF (plain (fun z => by rw [hh] at z; cases z.1) _))
    | false =>
      refine iteT ?_
      refine ⟨_, rfl, p, C, dx, _, _, rfl, upd_same, T.cl, T.nC, dfl_counts _ _ _ _, d, _, rfl, hd1 _, _, rfl, p, C, dx, _, _, rfl, upd_same, T.cl, T.nR, dfl_room _ _ _ _, rfl, _, rfl, ?_⟩
      rw [len_kvc]
      refine ite2 (fun h => ?_) (fun h => ?_)
      · have hfull : (c.length : Int) = room := V.int.inj (of_decide_eq_true h)
        -- less = min([weight] + list(self.counts.values()))
        refine ⟨_, rfl, (by rw [sizeLine_eq]; show 1 ≤ 16777216; decide), fun l hl1 => ?_⟩
        have dl : d ≠ l := fun z => by rw [← z, hd1] at hl1; cases hl1
        have pl : p ≠ l := fun z => by rw [← z, upd_same] at hl1; cases hl1
        refine ⟨_, rfl, p, C, dx, _, _, rfl, (by rw [upd_ne pl]; exact upd_same), T.cl, T.nC, dfl_counts _ _ _ _, (.inr (.inr (.inl ⟨rfl, .inl ⟨_, by rw [upd_ne dl]; exact hd1 _⟩⟩))), d, kvc c, rfl, rfl, (by rw [upd_ne dl]; exact hd1 _), fun v hv => ?_⟩
        have dv : d ≠ v := fun z => by rw [← z, upd_ne dl, hd1] at hv; cases hv
        have pv' : p ≠ v := fun z => by rw [← z, upd_ne pl, upd_same] at hv; cases hv
        have lv : l ≠ v := fun z => by rw [← z, upd_same] at hv; cases hv
        refine ⟨v, d, kvc c, rfl, upd_same, (by rw [upd_ne dv, upd_ne dl]; exact hd1 _), fun l2 hl2 => ?_⟩
        have dl2 : d ≠ l2 := fun z => by rw [← z, upd_ne dv, upd_ne dl, hd1] at hl2; cases hl2
        have pl2 : p ≠ l2 := fun z => by rw [← z, upd_ne pv', upd_ne pl, upd_same] at hl2; cases hl2
        have ll2 : l ≠ l2 := fun z => by rw [← z, upd_ne lv, upd_same] at hl2; cases hl2
        refine ⟨l, l2, [.int wt], (kvc c).map (·.2), rfl, rfl, (by rw [upd_ne ll2, upd_ne lv]; exact upd_same), upd_same, ?_, fun l3 hl3 => ?_⟩
        · rw [List.length_map, len_kvc, sizeLine_eq]
          have := D.len
          simp only [List.length_cons, List.length_nil]
          omega
        have nl3 : ∀ b o, upd H p (.ins C dx (dfl room d gone (total + wt))) b = some o → (upd (upd (upd (upd (upd H p (.ins C dx (dfl room d gone (total + wt)))) l (.lst [.int wt])) v (viewV v d)) l2 (.lst ((kvc c).map (·.2)))) l3 (.lst ([.int wt] ++ (kvc c).map (·.2)))) b = some o := fun b o e => by
          have b1 : b ≠ l := ne_of_none e hl1
          have b2 : b ≠ v := fun z => by rw [← z, upd_ne b1, e] at hv; cases hv
          have b3 : b ≠ l2 := fun z => by rw [← z, upd_ne b2, upd_ne b1, e] at hl2; cases hl2
          have b4 : b ≠ l3 := fun z => by rw [← z, upd_ne b3, upd_ne b2, upd_ne b1, e] at hl3; cases hl3
          rw [upd_ne b4, upd_ne b3, upd_ne b2, upd_ne b1]
          exact e
        have hL3 : (upd (upd (upd (upd (upd H p (.ins C dx (dfl room d gone (total + wt)))) l (.lst [.int wt])) v (viewV v d)) l2 (.lst ((kvc c).map (·.2)))) l3 (.lst ([.int wt] ++ (kvc c).map (·.2)))) l3 = some (.lst ((wt :: valsC c).map V.int)) := by
          rw [upd_same, snd_kvc]
          rfl
        revert nl3 hL3
        generalize upd (upd (upd (upd (upd H p (.ins C dx (dfl room d gone (total + wt)))) l (.lst [.int wt])) v (viewV v d)) l2 (.lst ((kvc c).map (·.2)))) l3 (.lst ([.int wt] ++ (kvc c).map (·.2))) = H5
        intro nl3 hL3
        have hp5 := nl3 p _ upd_same
        have hd5 := nl3 d _ (hd1 _)
        refine ⟨l3, wt :: valsC c, rfl, SqL.of hL3, (by rw [List.length_cons]; omega), fun m hm hle => ?_⟩
        have em : m = minL wt (valsC c) := minL_uniq (by
          rcases List.mem_cons.mp hm with z | z
          · exact .inl z
          · exact .inr z) (hle _ (List.mem_cons_self ..)) (fun y hy => hle y (List.mem_cons_of_mem _ hy))
        have mle : m ≤ wt := hle _ (List.mem_cons_self ..)
        -- self.counts = lowered(self.counts, less)
        refine ⟨_, rfl, p, C, dx, _, _, rfl, hp5, T.cl, T.nC, dfl_counts _ _ _ _, _, rfl, d, c, m, rfl, hd5, nd, (by have := D.len; omega), fun H6 d' hd' ex6 hd6 => ?_⟩
        have hp6 := ex6 p _ hp5
        have npd' : p ≠ d' := ne_of hp6 hd6 (fun z => nomatch z)
        refine ⟨_, rfl, p, C, dx, _, rfl, hp6, T.cl, T.nC, (by show 4 < 1000; decide), ?_⟩
        rw [dfl_put_counts]
        -- self.gone += less; weight -= less
        refine ⟨_, rfl, p, C, dx, _, _, rfl, upd_same, T.cl, T.nG, dfl_gone _ _ _ _, _, rfl, _, _, rfl, rfl, dx, _, upd_same, (by show 4 < 1000; decide), ?_⟩
        rw [dfl_put_gone]
        refine ⟨_, rfl, _, rfl, _, _, rfl, rfl, ?_⟩
        have hd0 : H d' = none := by
          cases e : H d' with
          | none => rfl
          | some o =>
            have b1 : d' ≠ p := npd'.symm
            have := nl3 d' o (by rw [upd_ne b1]; exact e)
            rw [this] at hd'
            cases hd'
        refine last _ d' (lowered c m) (gone + m) (wt - m) _ (by omega) (.inr hd0) (fun b o hb e => ?_) upd_same (by rw [upd_ne npd'.symm, upd_ne npd'.symm]; exact hd6) (by have := lowered_len c m; have := D.len; omega) ?_ ?_
        · have nb : b ≠ p := fun z => hb (by rw [z]; exact List.mem_cons_self ..)
          rw [upd_ne nb, upd_ne nb]
          exact ex6 b o (nl3 b o (by rw [upd_ne nb]; exact e))
        · unfold come
          rw [if_pos ⟨hh, hfull⟩, ← em]
        · unfold come
          rw [if_pos ⟨hh, hfull⟩, ← em]
      · have hfull : ¬ (c.length : Int) = room := fun z => h (decide_eq_true (congrArg V.int z))
        exact plain (fun z => hfull z.2) _
end
section
variable {P : Program} {w : World} {K : PySem.W.Frag} {mg : Str → Option Value} {base : Heap} {C CN CW CD : Addr}
/-- shown(): a new dict, in the order of the names -/
def spShown (C : Addr) : Sp := fun vs H Q _ => ∃ p d room c gone total, vs = [.ref p] ∧ DeskAt C H p d room c gone total ∧ ∀ (H' : Hp) (q : Addr), H q = none → Ex H H' → H' q = some (.dK (kvc (sortC c))) → Q (.ref q) H'
theorem ok_shown {f : Addr} {fd : FuncData} (F : Fun K "shown" "Desk.shown" sDShown f fd) (T : DkT K mg C CN CW CD) : FnOk P w K mg base CX0 1 f fd pDShown (spShown C) := by
  refine F.ok cDShown (fun vs H Q E h => ?_) (fun cdv A outer s H vs Q E hr h => ?_)
  · obtain ⟨p, d, room, c, gone, total, rfl, _⟩ := h
    rfl
  · obtain ⟨p, d, room, c, gone, total, rfl, D, q⟩ := h
    refine ⟨_, pss_one (ps_ret (pe_callTy (call_dictP rfl) (by rfl) T.dct (by decide +kernel) (pa_cons (pe_callB (cr_sortedI rfl) (by rfl) T.srt (by decide +kernel)
      (pa_cons (pe_bm0 PySem.F.plainAttrs_dict PySem.F.slot_dict_items PySem.F.type_dict_items mt_items (pe_fld (pv 0) rfl)) pa_nil)) pa_nil))), ?_⟩
    obtain ⟨dx, hp⟩ := D.ob
    refine ⟨_, rfl, p, C, dx, _, _, rfl, hp, T.cl, T.nC, dfl_counts _ _ _ _, (.inr (.inr (.inl ⟨rfl, .inl ⟨_, D.dc⟩⟩))), d, kvc c, rfl, rfl, D.dc, fun v hv => ?_⟩
    have dv : d ≠ v := ne_of_none D.dc hv
    refine ⟨v, d, c, rfl, upd_same, (by rw [upd_ne dv]; exact D.dc), D.nd, fun H2 l ts c' ex hl hts pm as hL hP => ?_⟩
    have e : c' = sortC c := sortC_eq D.nd pm (sortC_asc' as)
    subst e
    refine ⟨l, ts, _, rfl, SqL.of hL, prs_paired hP, fun q' hq' => ?_⟩
    rw [merge_kvc (sortC_nodup D.nd)]
    have ex2 : Ex H H2 := fun b o eb => ex b o (by rw [upd_ne (ne_of_none eb hv)]; exact eb)
    refine q _ q' ?_ (fun b o eb => ?_) upd_same
    · cases e : H q' with
      | none => rfl
      | some o =>
        rw [ex2 _ _ e] at hq'
        cases hq'
    · rw [upd_ne (ne_of_none (ex2 b o eb) hq')]
      exact ex2 b o eb
/-- a number that a Desk holds -/
def spNum (C : Addr) (g : Int → Int → Int → Int) : Sp := fun vs H Q _ => ∃ p d room c gone total, vs = [.ref p] ∧ DeskR C H p d room c gone total ∧ Q (.int (g room gone total)) H
theorem ok_lost {f : Addr} {fd : FuncData} (F : Fun K "lost" "Desk.lost" sDLost f fd) (T : DkT K mg C CN CW CD) : FnOk P w K mg base CX0 1 f fd pDLost (spNum C fun _ g _ => g) := by
  refine F.ok cDLost (fun vs H Q E h => ?_) (fun cdv A outer s H vs Q E hr h => ?_)
  · obtain ⟨p, d, room, c, gone, total, rfl, _⟩ := h
    rfl
  · obtain ⟨p, d, room, c, gone, total, rfl, ⟨⟨dx, hp⟩, _⟩, q⟩ := h
    refine ⟨_, pss_one (ps_ret (pe_fld (pv 0) rfl)), ?_⟩
    exact ⟨_, rfl, p, C, dx, _, _, rfl, hp, T.cl, T.nG, dfl_gone _ _ _ _, q⟩
theorem ok_weight {f : Addr} {fd : FuncData} (F : Fun K "weight" "Desk.weight" sDWeight f fd) (T : DkT K mg C CN CW CD) : FnOk P w K mg base CX0 1 f fd pDWeight (spNum C fun _ _ t => t) := by
  refine F.ok cDWeight (fun vs H Q E h => ?_) (fun cdv A outer s H vs Q E hr h => ?_)
  · obtain ⟨p, d, room, c, gone, total, rfl, _⟩ := h
    rfl
  · obtain ⟨p, d, room, c, gone, total, rfl, ⟨⟨dx, hp⟩, _⟩, q⟩ := h
    refine ⟨_, pss_one (ps_ret (pe_fld (pv 0) rfl)), ?_⟩
    exact ⟨_, rfl, p, C, dx, _, _, rfl, hp, T.cl, T.nT, dfl_total _ _ _ _, q⟩
theorem ok_drawers {f : Addr} {fd : FuncData} (F : Fun K "drawers" "Desk.drawers" sDDrawers f fd) (T : DkT K mg C CN CW CD) : FnOk P w K mg base CX0 1 f fd pDDrawers (spNum C fun r _ _ => r) := by
  refine F.ok cDDrawers (fun vs H Q E h => ?_) (fun cdv A outer s H vs Q E hr h => ?_)
  · obtain ⟨p, d, room, c, gone, total, rfl, _⟩ := h
    rfl
  · obtain ⟨p, d, room, c, gone, total, rfl, ⟨⟨dx, hp⟩, _⟩, q⟩ := h
    refine ⟨_, pss_one (ps_ret (pe_fld (pv 0) rfl)), ?_⟩
    exact ⟨_, rfl, p, C, dx, _, _, rfl, hp, T.cl, T.nR, dfl_room _ _ _ _, q⟩
end
section
variable {P : Program} {w : World} {K : PySem.W.Frag} {mg : Str → Option Value} {base : Heap} {C CN CW CD : Addr}
/-- least(name), most(name): u is what is added -/
def spLeast (K : PySem.W.Frag) (C CN : Addr) (u : Int → Int) : Sp := fun vs H Q E => ∃ p d room c gone total x, vs = [.ref p, x] ∧ DeskR C H p d room c gone total ∧ Thing K H x ∧ (∀ z, x = .str z → z.length ≤ sizeLine) ∧
  (∀ n, x = .str n → isName n = true → Q (.int (getD0 c n + u gone)) H) ∧ (isNameV x = false → E (.ref CN) none H)
theorem name_size {n : Str} (h : isName n = true) : n.length ≤ sizeLine := by
  unfold isName at h
  rw [Bool.and_eq_true] at h
  have := of_decide_eq_true h.1
  rw [sizeLine_eq]
  omega
/-- the names shown whose share is more, rising -/
def overS (room : Int) (c : CM) (u total : Int) : List Str := sortS ((keysC c).filter fun n => decide (total < (getD0 c n + u) * (room + 1)))
def spOver (C : Addr) (u : Int → Int) : Sp := fun vs H Q _ => ∃ p d room c gone total, vs = [.ref p] ∧ DeskAt C H p d room c gone total ∧ (∀ n ∈ keysC c, isName n = true) ∧
  ∀ (H' : Hp) (q : Addr), H q = none → Ex H H' → H' q = some (.lst ((overS room c (u gone) total).map V.str)) → Q (.ref q) H'
abbrev tOver (K : PySem.W.Frag) (C CN : Addr) (m : Str) (u : Int → Int) : TT := tTest (tOp (rI0 fun i j => .bl (decide (j < i))) (tOp (rI CMul fun i j => .int (i * j)) (tMeth C m (spLeast K C CN u) [] E0 (tVar 0) (tCons (tVar 1) tNil)) (tOp (rI0 fun i j => .int (i + j)) (tFld K (tVar 0) "room") (tC (.int 1)))) (tFld K (tVar 0) "total"))
/-- the reading of sorted([name for name in self.counts if self.F(name) * (self.room + 1) > self.total]) -/
theorem over_reads {u : Int → Int} {Q : VK} {H : Hp} {p d : Addr} {room : Int} {c : CM} {gone total : Int} {m : Str} (T : DkT K mg C CN CW CD) (D : DeskAt C H p d room c gone total) (hn : ∀ n ∈ keysC c, isName n = true)
    (hm : (m == "room") = false ∧ (m == "counts") = false ∧ (m == "gone") = false ∧ (m == "total") = false)
    (q : ∀ (H' : Hp) (q : Addr), H q = none → Ex H H' → H' q = some (.lst ((overS room c (u gone) total).map V.str)) → Q (.ref q) H') :
    tCB (rSortedS K) (tCons (tLockE (tLc (iKeys (tFld K (tVar 0) "counts")) (gName 1) (tOver K C CN m u) (tVar 1) [1])) tNil)
      [some (.ref p), none] H Q := by
  obtain ⟨⟨dx, hp⟩, hd, nd, hl, r1, r2⟩ := id D
  have npd := D.ne
  refine ⟨d, .dK (kvc c), hd, trivial, fun od => ?_⟩
  refine ⟨_, rfl, p, C, dx, _, _, rfl, (by rw [upd_ne npd]; exact hp), T.cl, T.nC, dfl_counts _ _ _ _, d, od, rfl, .inl ⟨kvc c, upd_same, fun L hL => ?_⟩⟩
  have dL : d ≠ L := fun z => by rw [← z, upd_same] at hL; cases hL
  have pL : p ≠ L := fun z => by rw [← z, upd_ne npd, hp] at hL; cases hL
  have hL0 : H L = none := by
    rw [upd_ne dL.symm] at hL
    exact hL
  refine lc_it (n := c.length) (fun i H2 => H2 d = some (.frz od (.dK (kvc c))) ∧ (∀ b o, b ≠ d → H b = some o → H2 b = some o) ∧ H2 L = some (.lst ((((keysC c).take i).filter fun n => decide (total < (getD0 c n + u gone) * (room + 1))).map V.str)))
    ⟨by rw [upd_ne dL]; exact upd_same, fun b o hb e => by rw [upd_ne (ne_of_none e hL0), upd_ne hb]; exact e, upd_same⟩ ?_ ?_ ?_ ?_
  · rintro i H2 hi ⟨h1, h2, h3⟩
    exact ⟨h1, by rw [len_kvc]; exact hi⟩
  · rintro H2 ⟨h1, h2, h3⟩
    exact ⟨h1, by rw [len_kvc]; exact Nat.le_refl _⟩
  · rintro i H2 hi ⟨h1, h2, h3⟩ x H3 ⟨rfl, k, v, hk, rfl⟩
    have ei : c[i]? = some c[i] := List.getElem?_eq_getElem hi
    have e0 : (kvc c)[i]? = some (Sum.inr c[i].1, V.int c[i].2) := by
      unfold kvc
      rw [List.getElem?_map, ei]
      rfl
    rw [e0] at hk
    cases hk
    have ek : (keysC c)[i]? = some c[i].1 := by
      unfold keysC
      rw [List.getElem?_map, ei]
      rfl
    have hn1 := hn _ (List.mem_of_getElem? ek)
    have hp2 := h2 p _ npd hp
    have hil : i < (keysC c).length := (List.getElem?_eq_some_iff.mp ek).1
    have tk : (keysC c).take (i + 1) = (keysC c).take i ++ [c[i].1] := by
      rw [List.take_succ_eq_append_getElem hil]
      rw [(List.getElem?_eq_some_iff.mp ek).2]
    refine ⟨rfl, _, rfl, p, dx, _, rfl, hp2, dfl_no _ _ _ _ hm, _, rfl, p, d, room, c, gone, total, .str c[i].1, rfl, ⟨⟨dx, hp2⟩, .inr ⟨od, h1⟩⟩, thing_str _, fun z e => ?_, fun n en _ => ?_, fun hx => ?_⟩
    · cases e
      exact name_size hn1
    · cases en
      refine ⟨_, rfl, p, C, dx, _, _, rfl, hp2, T.cl, T.nR, dfl_room _ _ _ _, _, _, rfl, rfl, _, _, rfl, rfl, .inr ⟨by omega, by omega⟩, _, rfl, p, C, dx, _, _, rfl, hp2, T.cl, T.nT, dfl_total _ _ _ _, _, _, rfl, rfl, _, rfl, ?_⟩
      refine ite2 (fun h => ?_) (fun h => ?_)
      · refine ⟨_, rfl, _, h3, small ?_, by rw [upd_ne dL]; exact h1, fun b o hb e => by rw [upd_ne (ne_of_none e hL0)]; exact h2 b o hb e, ?_⟩
        · rw [List.length_map]
          have a1 := List.length_filter_le (fun n => decide (total < (getD0 c n + u gone) * (room + 1))) ((keysC c).take i)
          have a2 : ((keysC c).take i).length ≤ i := by rw [List.length_take]; omega
          have := D.len
          omega
        · rw [upd_same, tk, List.filter_append, List.map_append]
          have : [c[i].1].filter (fun n => decide (total < (getD0 c n + u gone) * (room + 1))) = [c[i].1] := by
            exact List.filter_cons_of_pos (p := fun n => decide (total < (getD0 c n + u gone) * (room + 1))) h
          rw [this]
          rfl
      · refine ⟨h1, h2, ?_⟩
        rw [h3, tk, List.filter_append, List.map_append]
        have : [c[i].1].filter (fun n => decide (total < (getD0 c n + u gone) * (room + 1))) = [] := by
          exact List.filter_cons_of_neg (p := fun n => decide (total < (getD0 c n + u gone) * (room + 1))) h
        rw [this]
        simp
    · rw [show isNameV (.str c[i].1) = true from hn1] at hx
      cases hx
  · rintro H2 ⟨h1, h2, h3⟩
    refine ⟨h1, L, (keysC c).filter fun n => decide (total < (getD0 c n + u gone) * (room + 1)), rfl, SqL.of ?_, ?_, fun ys l pm so hl' => ?_⟩
    · rw [upd_ne dL.symm, h3, List.take_of_length_le (by unfold keysC; rw [List.length_map]; exact Nat.le_refl _)]
    · have a1 := List.length_filter_le (fun n => decide (total < (getD0 c n + u gone) * (room + 1))) (keysC c)
      have a2 : (keysC c).length = c.length := by unfold keysC; rw [List.length_map]
      have := D.len
      omega
    · have ex1 : Ex H (upd H2 d (.dK (kvc c))) := fun b o e => by
        by_cases hb : b = d
        · rw [hb, upd_same]
          rw [hb, hd] at e
          exact e
        · rw [upd_ne hb]
          exact h2 b o hb e
      have hl0 : H l = none := by
        cases e : H l with
        | none => rfl
        | some o =>
          rw [ex1 _ _ e] at hl'
          cases hl'
      refine q _ l hl0 (fun b o e => by rw [upd_ne (ne_of_none (ex1 b o e) hl')]; exact ex1 b o e) ?_
      rw [upd_same, sortS_eq pm (sortedS_pw so)]
      rfl
end
section
variable {P : Program} {w : World} {K : PySem.W.Frag} {mg : Str → Option Value} {base : Heap} {C CN CW CD : Addr}
theorem ok_least {f : Addr} {fd : FuncData} (F : Fun K "least" "Desk.least" sDLeast f fd) (T : DkT K mg C CN CW CD) (GN : Gf P w K mg base CX0 1 "is_name" pIsName (spName K)) :
    FnOk P w K mg base (L2.CX P w) 2 f fd pDLeast (spLeast K C CN fun _ => 0) := by
  obtain ⟨fN, fdN, gN, bN, mN, kN⟩ := GN.ex
  refine F.okX cDLeast (fun vs H Q E h => ?_) (fun cdv A outer s H vs Q E hr h => ?_)
  · obtain ⟨p, d, room, c, gone, total, x, rfl, _⟩ := h
    rfl
  · obtain ⟨p, d, room, c, gone, total, x, rfl, ⟨⟨dx, hp⟩, hd⟩, tx, hz, q1, q2⟩ := h
    have hu := hu_of hr
    refine ⟨_, pss_cons (ps_if (pt_not (pt_val (pe_call gN hr rfl mN kN bN .nil pass0 (pa_cons (pv 1) pa_nil)))) (pss_one (ps_raise rfl (takes_of rfl rfl rfl rfl) (pmk_own PySem.F.excBase_ValueError T.eN.x T.eN.g T.eN.k (raises_own T.eN.b T.eN.t) (by rfl)))) pss_nil)
      (pss_one (ps_ret (pe_dget2 hu (pe_fld (pv 0) rfl) (pv 1) pe_int ⟨rfl, rfl, rfl, rfl⟩))), ?_⟩
    refine ⟨_, rfl, x, rfl, tx, hz, _, rfl, ?_⟩
    cases hx : isNameV x with
    | false => exact iteT (q2 hx)
    | true =>
      refine iteF ?_
      cases x <;> first | (exact absurd hx Bool.false_ne_true) | skip
      rename_i n
      refine ⟨_, rfl, p, C, dx, _, _, rfl, hp, T.cl, T.nC, dfl_counts _ _ _ _, d, rfl, IsD.of hd, _, rfl, _, DGet.of hd n, ?_⟩
      rw [getD_map]
      have := q1 n rfl hx
      rw [Int.add_zero] at this
      exact this
end
section
variable {P : Program} {w : World} {K : PySem.W.Frag} {mg : Str → Option Value} {base : Heap} {C CN CW CD : Addr}
theorem ok_most {f : Addr} {fd : FuncData} (F : Fun K "most" "Desk.most" sDMost f fd) (T : DkT K mg C CN CW CD) (GL : Gm P w K mg base (L2.CX P w) C 2 "least" pDLeast (spLeast K C CN fun _ => 0)) :
    FnOk P w K mg base (L2.CX P w) 3 f fd pDMost (spLeast K C CN fun g => g) := by
  obtain ⟨fL, fdL, gL, bL, mL⟩ := GL.ex
  refine F.okX cDMost (fun vs H Q E h => ?_) (fun cdv A outer s H vs Q E hr h => ?_)
  · obtain ⟨p, d, room, c, gone, total, x, rfl, _⟩ := h
    rfl
  · obtain ⟨p, d, room, c, gone, total, x, rfl, D, tx, hz, q1, q2⟩ := h
    refine ⟨_, pss_one (ps_ret (pe_op op_add (pe_meth (pv 0) T.cl mL gL hr bL .nil (passes_call (takes_of rfl rfl rfl rfl) (fun _ _ _ _ z => z)) (pa_cons (pv 1) pa_nil)) (pe_fld (pv 0) rfl))), ?_⟩
    obtain ⟨dx, hp⟩ := D.ob
    refine ⟨_, rfl, p, dx, _, rfl, hp, dfl_no _ _ _ _ (by decide +kernel), _, rfl, p, d, room, c, gone, total, x, rfl, D, tx, hz, fun n en hn => ?_, q2⟩
    refine ⟨_, rfl, p, C, dx, _, _, rfl, hp, T.cl, T.nG, dfl_gone _ _ _ _, _, _, rfl, rfl, ?_⟩
    rw [Int.add_zero]
    exact q1 n en hn
end
/-! ### what a law draws -/
section
variable {P : Program} {w : World} {K : PySem.W.Frag} {mg : Str → Option Value} {base : Heap}
def spMixed : Sp := fun vs H Q _ => ∃ (c k : Int), vs = [.int c, .int k] ∧ ∀ m : Int, 0 ≤ m → m < 2147483647 → Q (.int m) H
theorem ok_mixed {f : Addr} {fd : FuncData} (F : Fun K "_law_mixed" "_law_mixed" sLMixed f fd) : FnOk P w K mg base CX0 1 f fd pLMixed spMixed := by
  refine F.ok cLMixed (fun vs H Q E h => ?_) (fun cdv A outer s H vs Q E hr h => ?_)
  · obtain ⟨c, k, rfl, _⟩ := h
    rfl
  · obtain ⟨c, k, rfl, q⟩ := h
    refine ⟨_, pss_cons (ps_set (i := 2) cLMixed.nd rfl (Or.inl rfl) (pe_op op_mod (pe_op op_mul (pe_op op_add (pe_op op_mod (pv 0) pe_int) (pe_op op_mul pe_int (pe_op op_add (pv 1) pe_int))) pe_int) pe_int))
      (pss_one (ps_ret (pe_op op_mod (pe_op op_mul (pe_op op_mod (pe_op op_mul (pv 2) (pv 2)) pe_int) pe_int) pe_int))), ?_⟩
    refine ⟨_, rfl, _, _, rfl, rfl, (by show (0 : Int) < _; decide), _, rfl, _, _, rfl, rfl, _, _, rfl, rfl, .inl (by decide), _, _, rfl, rfl, _, _, rfl, rfl, .inr (by decide), _, _, rfl, rfl, (by show (0 : Int) < _; decide), ?_⟩
    have h0 := Int.emod_nonneg ((c % 2147483629 + 104729 * (k + 1)) * 16807) (show (2147483647 : Int) ≠ 0 by decide)
    have h1 := Int.emod_lt_of_pos ((c % 2147483629 + 104729 * (k + 1)) * 16807) (show (0 : Int) < 2147483647 by decide)
    generalize (c % 2147483629 + 104729 * (k + 1)) * 16807 % 2147483647 = z at h0 h1 ⊢
    refine ⟨_, rfl, _, rfl, _, _, rfl, rfl, .inl ⟨by omega, by omega⟩, _, _, rfl, rfl, (by show (0 : Int) < _; decide), _, _, rfl, rfl, .inr (by decide), _, _, rfl, rfl, (by show (0 : Int) < _; decide), ?_⟩
    exact q _ (Int.emod_nonneg _ (by decide)) (Int.emod_lt_of_pos _ (by decide))
def spDrawers (K : PySem.W.Frag) : Sp := fun vs H Q _ => ∃ (a : Addr) (ns : List Int), vs = [.ref a] ∧ SqL K H a (ns.map V.int) ∧ ∀ (r : Int) (H' : Hp), 1 ≤ r → r ≤ 50 → Ex H H' → Q (.int r) H'
/-- script[i] if script else 0: some whole number -/
theorem cell_reads {Q : VK} {H : Hp} {a : Addr} {ns : List Int} {i : Int} {ti : TE} {σ : L2.St} (hσ : σ[0]? = some (some (.ref a))) (ht : ∀ Q : VK, Q (.int i) H → ti σ H Q) (h : SqL K H a (ns.map V.int)) (hi : i = 0 ∨ i = -1) (q : ∀ z : Int, Q (.int z) H) :
    tIf (fun σ H Q => tVar 0 σ H fun x H' => ∃ k, TruV K x H' k ∧ Q k H') (tOp (rIxL K) (tVar 0) ti) (tC (.int 0)) σ H Q := by
  refine ⟨_, hσ, _, .inl ⟨_, h, rfl⟩, ?_⟩
  cases ns with
  | nil => exact q 0
  | cons z ns =>
    refine ite2 (fun _ => ?_) (fun hh => absurd rfl hh)
    rcases hi with rfl | rfl
    · exact ⟨_, hσ, ht _ ⟨a, _, _, _, rfl, rfl, h, atI_nat (j := 0) rfl, q z⟩⟩
    · obtain ⟨l, y, e⟩ : ∃ l y, z :: ns = l ++ [y] := ⟨(z :: ns).dropLast, (z :: ns).getLast (by simp), (List.dropLast_concat_getLast _).symm⟩
      refine ⟨_, hσ, ht _ ⟨a, _, _, V.int y, rfl, rfl, h, ?_, q y⟩⟩
      rw [e, List.map_append]
      exact atI_last _ _
theorem ok_drawersL {f : Addr} {fd : FuncData} (F : Fun K "_law_drawers" "_law_drawers" sLDrawers f fd) (GM : Gf P w K mg base CX0 1 "_law_mixed" pLMixed spMixed) : FnOk P w K mg base CX0 2 f fd pLDrawers (spDrawers K) := by
  obtain ⟨fM, fdM, gM, bM, mM, kM⟩ := GM.ex
  refine F.ok cLDrawers (fun vs H Q E h => ?_) (fun cdv A outer s H vs Q E hr h => ?_)
  · obtain ⟨a, ns, rfl, _⟩ := h
    rfl
  · obtain ⟨a, ns, rfl, hS, q⟩ := h
    refine ⟨_, pss_cons (ps_set (i := 1) cLDrawers.nd rfl (Or.inl rfl) (pe_call gM hr rfl mM kM bM .nil pass0 (pa_cons (pe_ifExp (pt_truth (pv 0) (by intro _; rfl)) (pe_ix ix_list (pv 0) (pe_un un_neg pe_int) (fun _ _ => rfl)) pe_int) (pa_cons pe_int pa_nil))))
      (pss_one (ps_ret (pe_ix ix_list (pe_lst (pa_cons (pe_op op_add pe_int (pe_op op_mod (pe_op op_fdiv (pv 1) pe_int) pe_int)) (pa_cons (pe_op op_add pe_int (pe_op op_mod (pe_op op_fdiv (pv 1) pe_int) pe_int)) (pa_cons pe_int (pa_cons pe_int pa_nil)))))
        (pe_op op_fdiv (pe_op op_mod (pv 1) pe_int) pe_int) (fun _ _ => rfl)))), ?_⟩
    refine cell_reads (K := K) (a := a) (ns := ns) (i := -1) (ti := tUn (rU fun i => .int (-i)) (tC (.int 1))) (σ := [some (.ref a), none]) (by rfl) (fun Q' h' => ⟨1, rfl, h'⟩) hS (.inr rfl) fun z => ?_
    refine ⟨z, 901, rfl, fun m m0 m1 => ?_⟩
    refine ⟨_, rfl, _, _, rfl, rfl, ⟨by decide, by decide⟩, _, _, rfl, rfl, (by show (0 : Int) < _; decide), _, _, rfl, rfl, _, rfl, _, _, rfl, rfl, ⟨by decide, by decide⟩, _, _, rfl, rfl, (by show (0 : Int) < _; decide), _, _, rfl, rfl, (by rw [sizeLine_eq]; show 4 ≤ 16777216; decide), fun l hl => ?_⟩
    refine ⟨_, rfl, _, _, rfl, rfl, (by show (0 : Int) < _; decide), _, _, rfl, rfl, ⟨by decide, by decide⟩, l, [.int (1 + m / 8 % 4), .int (1 + m / 8 % 9), .int 3, .int 50], m % 8 / 2, ?_⟩
    have h := (show m % 8 / 2 = 0 ∨ m % 8 / 2 = 1 ∨ m % 8 / 2 = 2 ∨ m % 8 / 2 = 3 by omega)
    rcases h with e | e | e | e
    · exact ⟨_, rfl, rfl, SqL.of upd_same, by rw [e]; exact atI_nat (j := 0) rfl, q _ _ (by omega) (by omega) (Evl.Ex.new hl)⟩
    · exact ⟨_, rfl, rfl, SqL.of upd_same, by rw [e]; exact atI_nat (j := 1) rfl, q _ _ (by omega) (by omega) (Evl.Ex.new hl)⟩
    · exact ⟨_, rfl, rfl, SqL.of upd_same, by rw [e]; exact atI_nat (j := 2) rfl, q _ _ (by omega) (by omega) (Evl.Ex.new hl)⟩
    · exact ⟨_, rfl, rfl, SqL.of upd_same, by rw [e]; exact atI_nat (j := 3) rfl, q _ _ (by omega) (by omega) (Evl.Ex.new hl)⟩
end
section
variable {P : Program} {w : World} {K : PySem.W.Frag} {mg : Str → Option Value} {base : Heap}
def spNames (K : PySem.W.Frag) : Sp := fun vs H Q _ => ∃ (a : Addr) (ns : List Int), vs = [.ref a] ∧ SqL K H a (ns.map V.int) ∧ ∀ (nm : List Str) (p : Addr) (H' : Hp), nm.length = 14 → NamesOk nm → H p = none → Ex H H' → H' p = some (.lst (nm.map V.str)) → Q (.ref p) H'
theorem ok_names {f : Addr} {fd : FuncData} (F : Fun K "_law_names" "_law_names" sLNames f fd) (GM : Gf P w K mg base CX0 1 "_law_mixed" pLMixed spMixed) (ml : mg "len" = none) (mn : mg "min" = none) (mr : mg "range" = none) : FnOk P w K mg base CX0 2 f fd pLNames (spNames K) := by
  obtain ⟨fM, fdM, gM, bM, mM, kM⟩ := GM.ex
  refine F.ok cLNames (fun vs H Q E h => ?_) (fun cdv A outer s H vs Q E hr h => ?_)
  · obtain ⟨a, ns, rfl, _⟩ := h
    rfl
  · obtain ⟨a, ns, rfl, hS, q⟩ := h
    refine ⟨_, pss_cons (ps_set (i := 1) cLNames.nd rfl (Or.inl rfl) pe_str)
      (pss_cons (ps_set (i := 2) cLNames.nd rfl (Or.inl rfl) (pe_call gM hr rfl mM kM bM .nil pass0 (pa_cons (pe_ifExp (pt_truth (pv 0) (by intro _; rfl)) (pe_ix ix_list (pv 0) pe_int (fun _ _ => rfl)) pe_int) (pa_cons pe_int pa_nil))))
      (pss_cons (ps_set (i := 3) cLNames.nd rfl (Or.inl rfl) (pe_op op_mulS (pe_ix ix_str (pv 1) (pe_op op_mod (pv 2) pe_int) (fun _ _ => rfl)) (pe_op op_add pe_int (pe_op op_mod (pe_op op_fdiv (pv 2) pe_int) pe_int))))
      (pss_cons (ps_set (i := 4) cLNames.nd rfl (Or.inl rfl) (pe_op op_mod (pe_op op_fdiv (pv 2) pe_int) (pe_callB call_len_str (by rfl) ml PySem.boot_len (pa_cons (pv 3) pa_nil))))
      (pss_cons (ps_set (i := 5) cLNames.nd rfl (Or.inl rfl) (pe_lst pa_nil))
      (pss_cons (ps_for PassesOwn.never rfl (pi_range1 rfl mr (pa_cons pe_int pa_nil)) (pg_name (i := 6) cLNames.nd rfl (Or.inl rfl))
        (pss_cons (ps_set (i := 7) cLNames.nd rfl (Or.inl rfl) (pe_ix ix_str (pv 1) (pe_op op_mod (pe_op op_add (pe_op op_fdiv (pv 2) pe_int) (pe_op op_mul pe_int (pv 6))) pe_int) (fun _ _ => rfl)))
        (pss_cons (ps_set (i := 8) cLNames.nd rfl (Or.inl rfl) (pe_op op_add_str (pe_op op_add_str (pe_slice sl_str (pv 3) po_none (po_some (pv 4))) (pv 7)) (pe_slice sl_str (pv 3) (po_some (pe_op op_add (pv 4) pe_int)) po_none)))
        (pss_cons (ps_if (pt_cmpR op_eq (pe_op op_mod (pv 6) pe_int) pe_int (nomark _))
          (pss_one (ps_set (i := 8) cLNames.nd rfl (Or.inl rfl) (pe_slice sl_str (pe_op op_add_str (pv 8) (pv 8)) po_none (po_some (pe_callB (call_min2 rfl) (by rfl) mn (by decide +kernel) (pa_cons pe_int (pa_cons (pe_op op_add (pe_op op_add (pe_callB call_len_str (by rfl) ml PySem.boot_len (pa_cons (pv 8) pa_nil)) pe_int) (pe_op op_mod (pv 6) pe_int)) pa_nil)))))))
          pss_nil)
        (pss_cons (ps_if (pt_cmpR op_eq (pe_op op_mod (pv 6) pe_int) pe_int (nomark _))
          (pss_one (ps_set (i := 8) cLNames.nd rfl (Or.inl rfl) (pe_slice sl_str (pv 8) po_none (po_some (pe_op op_add (pv 4) pe_int)))))
          pss_nil)
        (pss_one (ps_expr (pe_bm PySem.F.plainAttrs_list PySem.F.slot_list_append PySem.F.type_list_append mt_append (pv 5) (pa_cons (pv 8) pa_nil)))))))))
      (pss_one (ps_ret (pv 5)))))))), ?_⟩
    refine cell_reads (K := K) (a := a) (ns := ns) (i := 0) (ti := tC (.int 0)) (σ := [some (.ref a), some (.str letters), none, none, none, none, none, none, none]) (by rfl) (fun Q' h' => h') hS (.inl rfl) fun z => ?_
    refine ⟨z, 900, rfl, fun m m0 m1 => ?_⟩
    have b26 := Int.emod_nonneg m (show (26 : Int) ≠ 0 by decide)
    have b26' := Int.emod_lt_of_pos m (show (0 : Int) < 26 by decide)
    -- the base: one letter, 1 to 8 times
    refine ⟨_, rfl, _, rfl, _, _, rfl, rfl, (by show (0 : Int) < _; decide), letters, m % 26, _, rfl, rfl, (by rw [sizeLine_eq]; decide +kernel), letters_at _ b26 b26', ?_⟩
    refine ⟨_, rfl, _, _, rfl, rfl, ⟨by decide, by decide⟩, _, _, rfl, rfl, (by show (0 : Int) < _; decide), _, _, rfl, rfl, ?_⟩
    obtain ⟨L, hL, hL1, hL8⟩ : ∃ L : Nat, 1 + m / 26 % 8 = (L : Int) ∧ 1 ≤ L ∧ L ≤ 8 := ⟨(1 + m / 26 % 8).toNat, by omega, by omega, by omega⟩
    dsimp only
    rw [hL]
    refine ⟨_, _, rfl, rfl, mulS_ok rfl (by omega) (by omega), ?_⟩
    have hbase := mulS_cs (97 + (m % 26).toNat) L hL1 hL8
    generalize PySem.Txt.mul ⟨#[97 + (m % 26).toNat]⟩ (L : Int) = bs at hbase ⊢
    have hbl : bs.length = L := by rw [cs_len, hbase, List.length_replicate]
    -- the place
    refine ⟨_, rfl, _, _, rfl, rfl, ⟨by decide, by decide⟩, _, rfl, bs, rfl, (by rw [hbl, sizeLine_eq]; omega), _, _, rfl, rfl, (by show (0 : Int) < (bs.length : Int); rw [hbl]; omega), ?_⟩
    dsimp only
    rw [hbl]
    have hp0 := Int.emod_nonneg (m / 208) (show ((L : Nat) : Int) ≠ 0 by omega)
    have hp1 := Int.emod_lt_of_pos (m / 208) (show (0 : Int) < ((L : Nat) : Int) by omega)
    obtain ⟨at_, hat⟩ : ∃ k : Nat, m / 208 % (L : Int) = (k : Int) := ⟨(m / 208 % (L : Int)).toNat, by omega⟩
    rw [hat] at hp1 ⊢
    have hatL : at_ < L := by omega
    refine ⟨Nat.zero_le _, fun p hp => ?_⟩
    refine ⟨14, rfl, by decide, by decide, for_range (lo := 0) (n := 14) (fun i σ H2 => ∃ (nm : List Str) (v6 v7 v8 : Option V), σ = [some (.ref a), some (.str letters), some (.int m), some (.str bs), some (.int (at_ : Int)), some (.ref p), v6, v7, v8] ∧ Ex H H2 ∧ nm.length = i ∧ i ≤ 14 ∧
        (∀ (k : Nat) (z : Str), nm[k]? = some z → WordAt (m / 1664) at_ k z) ∧ H2 p = some (.lst (nm.map V.str)))
      ⟨[], none, none, none, rfl, Evl.Ex.new hp, rfl, by decide, fun k z e => by simp at e, upd_same⟩ ?_ ?_⟩
    · rintro i σ H2 hi ⟨nm, v6, v7, v8, rfl, ex, hl, hi', hw, h2⟩
      have hk : (0 : Int) + (i : Int) = (i : Int) := Int.zero_add _
      show tSeq _ _ _ _ _
      have c0 := Int.emod_nonneg (m / 1664 + 5 * (i : Int)) (show (26 : Int) ≠ 0 by decide)
      have c1 := Int.emod_lt_of_pos (m / 1664 + 5 * (i : Int)) (show (0 : Int) < 26 by decide)
      dsimp only
      rw [hk]
      refine ⟨_, rfl, _, rfl, _, _, rfl, rfl, ⟨by decide, by decide⟩, _, rfl, _, _, rfl, rfl, .inl (by decide), _, _, rfl, rfl, _, _, rfl, rfl, (by show (0 : Int) < _; decide), letters, _, _, rfl, rfl, (by rw [sizeLine_eq]; decide +kernel), letters_at _ c0 c1, ?_⟩
      obtain ⟨lc, hlc⟩ : ∃ lc : Nat, lc = 97 + ((m / 1664 + 5 * (i : Int)) % 26).toNat := ⟨_, rfl⟩
      dsimp only
      rw [← hlc]
      -- the word
      have szb : bs.length ≤ sizeLine := by rw [hbl, sizeLine_eq]; omega
      refine ⟨_, rfl, _, rfl, _, rfl, bs, rfl, szb, _, rfl, _, _, rfl, rfl, ?_, ?_⟩
      · have := cutS_length bs none (some (at_ : Int))
        show _ + 1 ≤ _
        rw [sizeLine_eq]
        omega
      have e1 : (at_ : Int) + 1 = ((at_ + 1 : Nat) : Int) := by omega
      refine ⟨_, rfl, _, rfl, _, _, rfl, rfl, _, rfl, ?_⟩
      dsimp only
      rw [e1]
      refine ⟨bs, rfl, szb, ?_⟩
      have w0 : cs (cutS bs none (some (at_ : Int)) ++ ⟨#[lc]⟩ ++ cutS bs (some ((at_ + 1 : Nat) : Int)) none) = (cs bs).take at_ ++ [lc] ++ (cs bs).drop (at_ + 1) := by
        rw [cs_app, cs_app, cut_to, cut_from]
      have hwl : ((cs bs).take at_ ++ [lc] ++ (cs bs).drop (at_ + 1)).length = L := by
        rw [List.length_append, List.length_append, List.length_take, List.length_drop, hbase, List.length_replicate]
        simp only [List.length_cons, List.length_nil]
        omega
      refine ⟨_, _, rfl, rfl, ?_, ?_⟩
      · have l1 : (cutS bs none (some (at_ : Int)) ++ ⟨#[lc]⟩).length ≤ 9 := by
          rw [cs_len, cs_app, cut_to, List.length_append, List.length_take, hbase, List.length_replicate]
          show _ + 1 ≤ 9
          omega
        have l2 := cutS_length bs (some ((at_ + 1 : Nat) : Int)) none
        rw [sizeLine_eq]
        omega
      generalize cutS bs none (some (at_ : Int)) ++ ⟨#[lc]⟩ ++ cutS bs (some ((at_ + 1 : Nat) : Int)) none = wd at w0 ⊢
      have low : ∀ c ∈ cs wd, 97 ≤ c ∧ c ≤ 122 := by
        intro c hc
        rw [w0, List.mem_append, List.mem_append] at hc
        have rep : c ∈ cs bs → 97 ≤ c ∧ c ≤ 122 := fun h => by
          rw [hbase, List.mem_replicate] at h
          omega
        rcases hc with (hc | hc) | hc
        · exact rep (List.mem_of_mem_take hc)
        · rw [List.mem_singleton] at hc
          omega
        · exact rep (List.mem_of_mem_drop hc)
      have hwdl : (cs wd).length = L := by rw [w0]; exact hwl
      have atw : (cs wd)[at_]? = some lc := by
        rw [w0, List.append_assoc, List.getElem?_append_right (by rw [List.length_take]; omega)]
        have : at_ - ((cs bs).take at_).length = 0 := by rw [List.length_take, hbase, List.length_replicate]; omega
        rw [this]
        rfl
      -- what the rest makes of a word that has its letter
      have fin : ∀ (z : Str) (v7' : Option V), (∀ c ∈ cs z, 97 ≤ c ∧ c ≤ 122) → 1 ≤ (cs z).length → (cs z).length ≤ 8 → (cs z)[at_]? = some lc → ∀ H3, Ex H H3 → H3 p = some (.lst (nm.map V.str)) →
          tDrop (tBM K "list" rAppend (tVar 5) (tCons (tVar 8) tNil)) { nx := fun σ' H' => ∃ (nm : List Str) (v6 v7 v8 : Option V), σ' = [some (.ref a), some (.str letters), some (.int m), some (.str bs), some (.int (at_ : Int)), some (.ref p), v6, v7, v8] ∧ Ex H H' ∧ nm.length = i + 1 ∧ i + 1 ≤ 14 ∧
              (∀ (k : Nat) (z : Str), nm[k]? = some z → WordAt (m / 1664) at_ k z) ∧ H' p = some (.lst (nm.map V.str)), rt := Q } [some (.ref a), some (.str letters), some (.int m), some (.str bs), some (.int (at_ : Int)), some (.ref p), some (.int (i : Int)), v7', some (.str z)] H3 := by
        intro z v7' h1 h2' h3 h4 H3 ex3 hp3
        refine ⟨_, rfl, .inl ⟨rfl, _, SqL.of hp3⟩, _, rfl, p, _, _, rfl, rfl, hp3, small (by rw [List.length_map]; omega), nm ++ [z], _, _, _, rfl, fun b o e => ?_, by rw [List.length_append, hl]; rfl, by omega, fun k y hk' => ?_, ?_⟩
        · rw [upd_ne (ne_of_none e hp)]
          exact ex3 b o e
        · rcases Nat.lt_or_ge k nm.length with c | c
          · rw [List.getElem?_append_left c] at hk'
            exact hw k y hk'
          · rw [List.getElem?_append_right c] at hk'
            have ek : k = nm.length := by
              have := (List.getElem?_eq_some_iff.mp hk').1
              simp only [List.length_cons, List.length_nil] at this
              omega
            rw [ek, Nat.sub_self] at hk'
            have ey : z = y := Option.some.inj hk'
            rw [← ey, ek, hl]
            exact ⟨(isName_iff z).mpr ⟨h2', h3, h1⟩, by rw [h4, hlc]⟩
        · rw [upd_same, List.map_append]
          rfl
      have cutLast : ∀ (z : Str) (v7' : Option V), (∀ c ∈ cs z, 97 ≤ c ∧ c ≤ 122) → 1 ≤ (cs z).length → (cs z).length ≤ 8 → (cs z)[at_]? = some lc → ∀ H3, Ex H H3 → H3 p = some (.lst (nm.map V.str)) →
          tSeq (tIfS (tTest (tOp rEq (tOp (rI (fun _ j => 0 < j) fun i j => .int (i % j)) (tVar 6) (tC (.int 5))) (tC (.int 4)))) (tAsg (tSl rSlS (tVar 8) tNoPart (tPart (tOp (rI0 fun i j => .int (i + j)) (tVar 4) (tC (.int 1))))) (gName 8)) tNext) (tDrop (tBM K "list" rAppend (tVar 5) (tCons (tVar 8) tNil)))
            { nx := fun σ' H' => ∃ (nm : List Str) (v6 v7 v8 : Option V), σ' = [some (.ref a), some (.str letters), some (.int m), some (.str bs), some (.int (at_ : Int)), some (.ref p), v6, v7, v8] ∧ Ex H H' ∧ nm.length = i + 1 ∧ i + 1 ≤ 14 ∧
              (∀ (k : Nat) (z : Str), nm[k]? = some z → WordAt (m / 1664) at_ k z) ∧ H' p = some (.lst (nm.map V.str)), rt := Q } [some (.ref a), some (.str letters), some (.int m), some (.str bs), some (.int (at_ : Int)), some (.ref p), some (.int (i : Int)), v7', some (.str z)] H3 := by
        intro z v7' h1 h2' h3 h4 H3 ex3 hp3
        refine ⟨_, rfl, _, _, rfl, rfl, (by show (0 : Int) < _; decide), rfl, _, rfl, ?_⟩
        refine ite2 (fun _ => ?_) (fun _ => fin z v7' h1 h2' h3 h4 H3 ex3 hp3)
        refine ⟨_, rfl, _, rfl, _, _, rfl, rfl, _, rfl, ?_⟩
        dsimp only
        rw [e1]
        refine ⟨z, rfl, by rw [cs_len, sizeLine_eq]; omega, ?_⟩
        have e3 := cut_to z (at_ + 1)
        have hlt : at_ < (cs z).length := (List.getElem?_eq_some_iff.mp h4).1
        refine fin _ v7' (fun c hc => ?_) ?_ ?_ ?_ H3 ex3 hp3
        · rw [e3] at hc
          exact h1 c (List.mem_of_mem_take hc)
        · rw [e3, List.length_take]
          omega
        · rw [e3, List.length_take]
          omega
        · rw [e3, List.getElem?_take, if_pos (Nat.lt_succ_self _)]
          exact h4
      refine ⟨_, rfl, _, _, rfl, rfl, (by show (0 : Int) < _; decide), rfl, _, rfl, ?_⟩
      refine ite2 (fun _ => ?_) (fun _ => cutLast wd _ low (by omega) (by omega) atw H2 ex h2)
      have hww : wd.length = L := by rw [cs_len]; exact hwdl
      refine ⟨_, rfl, _, rfl, _, _, rfl, rfl, (by rw [hww, sizeLine_eq]; omega), _, rfl, wd, rfl, (by rw [hww, sizeLine_eq]; omega), _, _, rfl, rfl, _, rfl, _, _, rfl, rfl, (by show (0 : Int) < _; decide), _, _, rfl, rfl, _, _, rfl, _, rfl, ?_⟩
      dsimp only
      rw [hww]
      obtain ⟨N, hN, hN1, hN2⟩ : ∃ N : Nat, (if (L : Int) + 1 + (i : Int) % 2 < 8 then (L : Int) + 1 + (i : Int) % 2 else 8) = (N : Int) ∧ L ≤ N ∧ N ≤ 8 := by
        have := Int.emod_nonneg (i : Int) (show (2 : Int) ≠ 0 by decide)
        split
        · exact ⟨((L : Int) + 1 + (i : Int) % 2).toNat, by omega, by omega, by omega⟩
        · exact ⟨8, rfl, hL8, Nat.le_refl _⟩
      rw [hN]
      refine ⟨_, rfl, by rw [cs_len, cs_app, List.length_append, hwdl, sizeLine_eq]; omega, ?_⟩
      have e4 := cut_to (wd ++ wd) N
      rw [cs_app] at e4
      refine cutLast _ _ (fun c hc => ?_) ?_ ?_ ?_ H2 ex h2
      · rw [e4] at hc
        have := List.mem_of_mem_take hc
        rw [List.mem_append] at this
        exact this.elim (low c) (low c)
      · rw [e4, List.length_take, List.length_append]
        omega
      · rw [e4, List.length_take]
        omega
      · rw [e4, List.getElem?_take, if_pos (by omega), List.getElem?_append_left (by omega)]
        exact atw
    · rintro σ H2 ⟨nm, v6, v7, v8, rfl, ex, hl, hi', hw, h2⟩
      exact ⟨_, rfl, q nm p H2 hl (words_ok (by omega) hw) hp ex h2⟩
end
/-! ### one coming -/
section
variable {P : Program} {w : World} {K : PySem.W.Frag} {mg : Str → Option Value} {base : Heap}
theorem none_ex {H H' : Hp} {p : Addr} (e : Ex H H') (h : H' p = none) : H p = none := by
  cases c : H p with
  | none => rfl
  | some o => rw [e p o c] at h; cases h
theorem sql_ex {H H' : Hp} {a : Addr} {xs : List V} (h : SqL K H a xs) (e : Ex H H') : SqL K H' a xs := by
  rcases h with (h | h) | h
  · exact .inl (.inl (e _ _ h))
  · obtain ⟨o, h⟩ := h
    exact .inl (.inr ⟨o, e _ _ h⟩)
  · exact .inr h
def spComing (K : PySem.W.Frag) : Sp := fun vs H Q _ => ∃ (a : Addr) (nm : List Str) (c k : Int), vs = [.ref a, .int c, .int k] ∧ SqL K H a (nm.map V.str) ∧ nm.length = 14 ∧
  ∀ (n : Str) (x : Int) (p : Addr) (H' : Hp), n ∈ nm → isWt x = true → Ex H H' → H p = none → H' p = some (.tup [.str n, .int x]) → Q (.ref p) H'
theorem ok_coming {f : Addr} {fd : FuncData} (F : Fun K "_law_coming" "_law_coming" sLComing f fd) (GM : Gf P w K mg base CX0 1 "_law_mixed" pLMixed spMixed) : FnOk P w K mg base CX0 2 f fd pLComing (spComing K) := by
  obtain ⟨fM, fdM, gM, bM, mM, kM⟩ := GM.ex
  refine F.ok cLComing (fun vs H Q E h => ?_) (fun cdv A outer s H vs Q E hr h => ?_)
  · obtain ⟨a, nm, c, k, rfl, _⟩ := h
    rfl
  · obtain ⟨a, nm, c, k, rfl, hS, hl, q⟩ := h
    refine ⟨_, pss_cons (ps_set (i := 3) cLComing.nd rfl (Or.inl rfl) (pe_call gM hr rfl mM kM bM .nil pass0 (pa_cons (pv 1) (pa_cons (pv 2) pa_nil))))
      (pss_cons (ps_set (i := 4) cLComing.nd rfl (Or.inl rfl) (pe_ix ix_list (pv 0) (pe_op op_mod (pe_op op_mod (pv 3) (pe_ix ix_list (pe_lst (pa_cons pe_int (pa_cons pe_int (pa_cons pe_int pa_nil)))) (pe_op op_mod (pe_op op_fdiv (pv 3) pe_int) pe_int) (fun _ _ => rfl))) pe_int) (fun _ _ => rfl)))
      (pss_cons (ps_set (i := 5) cLComing.nd rfl (Or.inl rfl) (pe_op op_mod (pe_op op_fdiv (pv 3) pe_int) pe_int))
      (pss_cons (ps_set (i := 6) cLComing.nd rfl (Or.inl rfl) (pe_op op_add pe_int (pe_op op_mod (pe_op op_fdiv (pv 3) pe_int) (pe_ix ix_list (pe_lst (pa_cons pe_int (pa_cons pe_int (pa_cons pe_int pa_nil)))) (pe_op op_mod (pv 5) pe_int) (fun _ _ => rfl)))))
      (pss_cons (ps_if (pt_cmpR op_gt (pv 5) pe_int (nomark _))
        (pss_one (ps_set (i := 6) cLComing.nd rfl (Or.inl rfl) (pe_op op_add pe_int (pe_op op_mod (pe_op op_add (pe_op op_pow (pv 3) pe_int) (pe_op op_mod (pv 1) (pe_op op_pow pe_int pe_int))) (pe_op op_pow pe_int pe_int)))))
        pss_nil)
      (pss_one (ps_ret (pe_tup (pa_cons (pv 4) (pa_cons (pv 6) pa_nil))))))))), ?_⟩
    have sz3 : 3 ≤ sizeLine := by rw [sizeLine_eq]; decide
    -- one of three whole numbers
    have three : ∀ (x y z j : Int) (Q : VK) (H2 : Hp) (l : Addr), 0 ≤ j → j < 3 → (Q (.int x) (upd H2 l (.lst [.int x, .int y, .int z])) ∧ Q (.int y) (upd H2 l (.lst [.int x, .int y, .int z])) ∧ Q (.int z) (upd H2 l (.lst [.int x, .int y, .int z]))) →
        rIxL K (V.ref l) (V.int j) (upd H2 l (.lst [.int x, .int y, .int z])) Q := by
      intro x y z j Q H2 l j0 j3 ⟨q0, q1, q2⟩
      have h := (show j = 0 ∨ j = 1 ∨ j = 2 by omega)
      rcases h with e | e | e
      · exact ⟨l, _, j, _, rfl, rfl, SqL.of upd_same, by rw [e]; exact atI_nat (j := 0) rfl, q0⟩
      · exact ⟨l, _, j, _, rfl, rfl, SqL.of upd_same, by rw [e]; exact atI_nat (j := 1) rfl, q1⟩
      · exact ⟨l, _, j, _, rfl, rfl, SqL.of upd_same, by rw [e]; exact atI_nat (j := 2) rfl, q2⟩
    refine ⟨_, rfl, _, rfl, c, k, rfl, fun m m0 m1 => ?_⟩
    have tail : ∀ (b : Int) (nx : Str) (σ5 : Int) (H2 : Hp), nx ∈ nm → Ex H H2 → 0 < b → b ≤ 60 → ∀ mm : Int, 0 ≤ mm → mm < b → 
        tSeq (tIfS (tTest (tOp (rI0 fun i j => .bl (decide (j < i))) (tVar 5) (tC (.int 9)))) (tAsg (tOp (rI0 fun i j => .int (i + j)) (tC (.int 1)) (tOp (rI (fun _ j => 0 < j) fun i j => .int (i % j)) (tOp (rI0 fun i j => .int (i + j)) (tOp (rI CPow fun i j => .int (i ^ j.toNat)) (tVar 3) (tC (.int 7))) (tOp (rI (fun _ j => 0 < j) fun i j => .int (i % j)) (tVar 1) (tOp (rI CPow fun i j => .int (i ^ j.toNat)) (tC (.int 10)) (tC (.int 59))))) (tOp (rI CPow fun i j => .int (i ^ j.toNat)) (tC (.int 10)) (tC (.int 60))))) (gName 6)) tNext)
          (tRet (tTup (tCons (tVar 4) (tCons (tVar 6) tNil)))) { nx := fun x H' => Q V.non H', rt := Q } [some (.ref a), some (.int c), some (.int k), some (.int m), some (.str nx), some (.int σ5), some (.int (1 + mm))] H2 := by
      intro b nx s5 H2 hn ex b0 b60 mm mm0 mm1
      have wt1 : isWt (1 + mm) = true := decide_eq_true (by unfold great; omega)
      have last : ∀ y : Int, isWt y = true → tRet (tTup (tCons (tVar 4) (tCons (tVar 6) tNil))) { nx := fun x H' => Q V.non H', rt := Q } [some (.ref a), some (.int c), some (.int k), some (.int m), some (.str nx), some (.int s5), some (.int y)] H2 := by
        intro y hy
        exact ⟨_, rfl, _, rfl, by rw [sizeLine_eq]; show 2 ≤ 16777216; decide, fun p hp => q nx y p _ hn hy (ex.trans (Evl.Ex.new hp)) (none_ex ex hp) upd_same⟩
      refine ⟨_, rfl, _, _, rfl, rfl, _, rfl, ?_⟩
      refine ite2 (fun _ => ?_) (fun _ => last _ wt1)
      have p59 : (0 : Int) < (10 : Int) ^ (59 : Int).toNat := by decide +kernel
      have p60 : (10 : Int) ^ (60 : Int).toNat = great := by decide +kernel
      refine ⟨_, rfl, _, _, rfl, rfl, ⟨by decide, by decide, ?_⟩, _, rfl, _, _, rfl, rfl, ⟨by decide, by decide, by decide⟩, _, _, rfl, rfl, p59, _, _, rfl, rfl, _, _, rfl, rfl, ⟨by decide, by decide, by decide⟩, _, _, rfl, rfl, (by dsimp only; rw [p60]; decide), _, _, rfl, rfl, ?_⟩
      · show m.natAbs < 2 ^ 64
        omega
      · dsimp only
        rw [p60]
        refine last _ (decide_eq_true ?_)
        have h1 := Int.emod_nonneg (m ^ (7 : Int).toNat + c % (10 : Int) ^ (59 : Int).toNat) (show great ≠ 0 by decide)
        have h2 := Int.emod_lt_of_pos (m ^ (7 : Int).toNat + c % (10 : Int) ^ (59 : Int).toNat) (show 0 < great by decide)
        omega
    -- the weight
    have mid : ∀ (j : Int) (H2 : Hp), 0 ≤ j → j < 14 → Ex H H2 → ∃ (a' : Addr) (xs : List V) (i : Int) (v : V), (V.ref a = .ref a') ∧ (V.int j = .int i) ∧ SqL K H2 a' xs ∧ atI xs i = some v ∧
        tSeq (tAsg (tOp (rI (fun _ j => 0 < j) fun i j => .int (i % j)) (tOp (rI CDiv fun i j => .int (i / j)) (tVar 3) (tC (.int 42))) (tC (.int 12))) (gName 5)) (tSeq (tAsg (tOp (rI0 fun i j => .int (i + j)) (tC (.int 1)) (tOp (rI (fun _ j => 0 < j) fun i j => .int (i % j)) (tOp (rI CDiv fun i j => .int (i / j)) (tVar 3) (tC (.int 600))) (tOp (rIxL K) (tLst (tCons (tC (.int 1)) (tCons (tC (.int 9)) (tCons (tC (.int 60)) tNil)))) (tOp (rI (fun _ j => 0 < j) fun i j => .int (i % j)) (tVar 5) (tC (.int 3)))))) (gName 6))
         (tSeq (tIfS (tTest (tOp (rI0 fun i j => .bl (decide (j < i))) (tVar 5) (tC (.int 9)))) (tAsg (tOp (rI0 fun i j => .int (i + j)) (tC (.int 1)) (tOp (rI (fun _ j => 0 < j) fun i j => .int (i % j)) (tOp (rI0 fun i j => .int (i + j)) (tOp (rI CPow fun i j => .int (i ^ j.toNat)) (tVar 3) (tC (.int 7))) (tOp (rI (fun _ j => 0 < j) fun i j => .int (i % j)) (tVar 1) (tOp (rI CPow fun i j => .int (i ^ j.toNat)) (tC (.int 10)) (tC (.int 59))))) (tOp (rI CPow fun i j => .int (i ^ j.toNat)) (tC (.int 10)) (tC (.int 60))))) (gName 6)) tNext)
          (tRet (tTup (tCons (tVar 4) (tCons (tVar 6) tNil)))))) { nx := fun x H' => Q V.non H', rt := Q } [some (.ref a), some (.int c), some (.int k), some (.int m), some v, none, none] H2 := by
      intro j H2 j0 j1 ex
      obtain ⟨jn, rfl⟩ : ∃ n : Nat, j = (n : Int) := ⟨j.toNat, by omega⟩
      have hjn : jn < nm.length := by omega
      refine ⟨a, _, _, .str nm[jn], rfl, rfl, sql_ex hS ex, atI_nat (by rw [List.getElem?_map, List.getElem?_eq_getElem hjn]; rfl), ?_⟩
      have hin : nm[jn] ∈ nm := List.getElem_mem hjn
      generalize nm[jn] = nx at hin ⊢
      refine ⟨_, rfl, _, _, rfl, rfl, ⟨by decide, by decide⟩, _, _, rfl, rfl, (by show (0 : Int) < _; decide), _, rfl, ?_⟩
      dsimp only
      have s0 := Int.emod_nonneg (m / 42) (show (12 : Int) ≠ 0 by decide)
      refine ⟨_, _, rfl, rfl, ⟨by decide, by decide⟩, sz3, ?_⟩
      intro l hl
      refine ⟨_, rfl, _, _, rfl, rfl, (by show (0 : Int) < _; decide), ?_⟩
      refine three _ _ _ _ _ _ l (Int.emod_nonneg _ (by decide)) (Int.emod_lt_of_pos _ (by decide)) ?_
      have ex2 := ex.trans (Evl.Ex.new (o := .lst [.int 1, .int 9, .int 60]) hl)
      have part : ∀ b : Int, 0 < b → b ≤ 60 → 0 ≤ m / 600 % b ∧ m / 600 % b < b := fun b b0 _ => ⟨Int.emod_nonneg _ (by omega), Int.emod_lt_of_pos _ b0⟩
      refine ⟨?_, ?_, ?_⟩
      · exact ⟨_, _, rfl, rfl, (by show (0 : Int) < _; decide), _, _, rfl, rfl, tail 1 nx _ _ hin ex2 (by decide) (by decide) _ (part 1 (by decide) (by decide)).1 (part 1 (by decide) (by decide)).2⟩
      · exact ⟨_, _, rfl, rfl, (by show (0 : Int) < _; decide), _, _, rfl, rfl, tail 9 nx _ _ hin ex2 (by decide) (by decide) _ (part 9 (by decide) (by decide)).1 (part 9 (by decide) (by decide)).2⟩
      · exact ⟨_, _, rfl, rfl, (by show (0 : Int) < _; decide), _, _, rfl, rfl, tail 60 nx _ _ hin ex2 (by decide) (by decide) _ (part 60 (by decide) (by decide)).1 (part 60 (by decide) (by decide)).2⟩
    refine ⟨_, rfl, _, rfl, sz3, ?_⟩
    intro l hl
    refine ⟨_, rfl, _, _, rfl, rfl, ⟨by decide, by decide⟩, _, _, rfl, rfl, (by show (0 : Int) < _; decide), ?_⟩
    refine three _ _ _ _ _ _ l (Int.emod_nonneg _ (by decide)) (Int.emod_lt_of_pos _ (by decide)) ?_
    have ex1 : Ex H (upd H l (.lst [.int 4, .int 14, .int 9])) := Evl.Ex.new hl
    refine ⟨?_, ?_, ?_⟩
    · exact ⟨_, _, rfl, rfl, (by show (0 : Int) < _; decide), _, _, rfl, rfl, (by show (0 : Int) < _; decide), mid _ _ (Int.emod_nonneg _ (by decide)) (Int.emod_lt_of_pos _ (by decide)) ex1⟩
    · exact ⟨_, _, rfl, rfl, (by show (0 : Int) < _; decide), _, _, rfl, rfl, (by show (0 : Int) < _; decide), mid _ _ (Int.emod_nonneg _ (by decide)) (Int.emod_lt_of_pos _ (by decide)) ex1⟩
    · exact ⟨_, _, rfl, rfl, (by show (0 : Int) < _; decide), _, _, rfl, rfl, (by show (0 : Int) < _; decide), mid _ _ (Int.emod_nonneg _ (by decide)) (Int.emod_lt_of_pos _ (by decide)) ex1⟩
end
/-! ### all that a law calls -/
structure LawG (P : Program) (w : World) (K : PySem.W.Frag) (mg : Str → Option Value) (base : Heap) (C CN CW CD : Addr) : Prop where
  T : DkT K mg C CN CW CD
  made : ∃ fI fdI, Mk K C fI ∧ FnOk P w K mg base (L2.CX P w) 3 fI fdI pDInit (spInit K C CD) ∧ Binds K fdI pDInit []
  come : Gm P w K mg base (L2.CX P w) C 3 "come" pDCome (spCome K C CN CW)
  shown : Gm P w K mg base CX0 C 1 "shown" pDShown (spShown C)
  lost : Gm P w K mg base CX0 C 1 "lost" pDLost (spNum C fun _ g _ => g)
  weight : Gm P w K mg base CX0 C 1 "weight" pDWeight (spNum C fun _ _ t => t)
  drawers : Gm P w K mg base CX0 C 1 "drawers" pDDrawers (spNum C fun r _ _ => r)
  least : Gm P w K mg base (L2.CX P w) C 2 "least" pDLeast (spLeast K C CN fun _ => 0)
  most : Gm P w K mg base (L2.CX P w) C 3 "most" pDMost (spLeast K C CN fun g => g)
  mixed : Gf P w K mg base CX0 1 "_law_mixed" pLMixed spMixed
  names : Gf P w K mg base CX0 2 "_law_names" pLNames (spNames K)
  drawn : Gf P w K mg base CX0 2 "_law_drawers" pLDrawers (spDrawers K)
  coming : Gf P w K mg base CX0 2 "_law_coming" pLComing (spComing K)
/-- law's: a list of at most 63 ints is handed in, True comes out -/
def spLaw (K : PySem.W.Frag) : Sp := fun vs H Q _ => ∃ (a : Addr) (ns : List Int), vs = [.ref a] ∧ SqL K H a (ns.map V.int) ∧ ns.length ≤ 63 ∧ ∀ H', Q (.bl true) H'
/-! the same three readings under names that nothing looks into -/
@[irreducible] def wMeth := @L2.tMeth
@[irreducible] def wMake := @L2.tMake
@[irreducible] def wLc := @L2.tLc
theorem wMeth_eq : @wMeth = @L2.tMeth := by unfold wMeth; rfl
theorem wMake_eq : @wMake = @L2.tMake := by unfold wMake; rfl
theorem wLc_eq : @wLc = @L2.tLc := by unfold wLc; rfl
theorem ex_off {Hb H H' : Hp} {l : List Addr} (e : Ex Hb H) (o : Off l H H') (hl : ∀ b ∈ l, Hb b = none) : Ex Hb H' := fun b u hb => o b u (fun z => by rw [hl b z] at hb; cases hb) (e b u hb)
section
variable {K : PySem.W.Frag} {C CN CW CD : Addr} {σ : L2.St} {H : Hp} {Q : VK} {i j : Nat} {p d : Addr} {room gone total : Int} {c : CM}
/-! reading a method's call on a Desk that stands in a slot -/
theorem rd_shown (hσ : σ[i]? = some (some (.ref p))) (D : DeskAt C H p d room c gone total) (q : ∀ (H' : Hp) (r : Addr), H r = none → Ex H H' → H' r = some (.dK (kvc (sortC c))) → Q (.ref r) H') : wMeth C "shown" (spShown C) [] E0 (tVar i) tNil σ H Q := by
  rw [wMeth_eq]
  obtain ⟨dx, hp⟩ := D.ob
  exact ⟨_, hσ, p, dx, _, rfl, hp, dfl_no _ _ _ _ (by decide +kernel), p, d, room, c, gone, total, rfl, D, q⟩
theorem rd_num {m : Str} {g : Int → Int → Int → Int} (hm : (m == "room") = false ∧ (m == "counts") = false ∧ (m == "gone") = false ∧ (m == "total") = false) (hσ : σ[i]? = some (some (.ref p))) (D : DeskAt C H p d room c gone total) (q : Q (.int (g room gone total)) H) : wMeth C m (spNum C g) [] E0 (tVar i) tNil σ H Q := by
  rw [wMeth_eq]
  obtain ⟨dx, hp⟩ := D.ob
  exact ⟨_, hσ, p, dx, _, rfl, hp, dfl_no _ _ _ _ hm, p, d, room, c, gone, total, rfl, D.rd, q⟩
theorem rd_over {m : Str} {u : Int → Int} (hm : (m == "room") = false ∧ (m == "counts") = false ∧ (m == "gone") = false ∧ (m == "total") = false) (hσ : σ[i]? = some (some (.ref p))) (D : DeskAt C H p d room c gone total) (hn : ∀ n ∈ keysC c, isName n = true)
    (q : ∀ (H' : Hp) (r : Addr), H r = none → Ex H H' → H' r = some (.lst ((overS room c (u gone) total).map V.str)) → Q (.ref r) H') : wMeth C m (spOver C u) [] E0 (tVar i) tNil σ H Q := by
  rw [wMeth_eq]
  obtain ⟨dx, hp⟩ := D.ob
  exact ⟨_, hσ, p, dx, _, rfl, hp, dfl_no _ _ _ _ hm, p, d, room, c, gone, total, rfl, D, hn, q⟩
theorem rd_least {m : Str} {u : Int → Int} {n : Str} (hm : (m == "room") = false ∧ (m == "counts") = false ∧ (m == "gone") = false ∧ (m == "total") = false) (hσ : σ[i]? = some (some (.ref p))) (hj : σ[j]? = some (some (.str n))) (D : DeskAt C H p d room c gone total) (hn : isName n = true)
    (q : Q (.int (getD0 c n + u gone)) H) : wMeth C m (spLeast K C CN u) [] E0 (tVar i) (tCons (tVar j) tNil) σ H Q := by
  rw [wMeth_eq]
  obtain ⟨dx, hp⟩ := D.ob
  refine ⟨_, hσ, p, dx, _, rfl, hp, dfl_no _ _ _ _ hm, _, hj, p, d, room, c, gone, total, .str n, rfl, D.rd, thing_str n, fun z e => ?_, fun n' e _ => ?_, fun e => ?_⟩
  · cases e
    exact name_size hn
  · cases e
    exact q
  · rw [show isNameV (.str n) = true from hn] at e
    cases e
/-- a coming of a drawn name with a drawn weight -/
theorem rd_come {k : Nat} {n : Str} {wt : Int} (hσ : σ[i]? = some (some (.ref p))) (hj : σ[j]? = some (some (.str n))) (hk : σ[k]? = some (some (.int wt))) (D : DeskAt C H p d room c gone total) (hn : isName n = true) (hw : isWt wt = true)
    (q : ∀ (H' : Hp) (d' : Addr), (d' = d ∨ H d' = none) → Off [p, d] H H' → DeskAt C H' p d' room (come room c n wt).1 (gone + (come room c n wt).2) (total + wt) → Q .non H') : wMeth C "come" (spCome K C CN CW) [] E0 (tVar i) (tCons (tVar j) (tCons (tVar k) tNil)) σ H Q := by
  rw [wMeth_eq]
  obtain ⟨dx, hp⟩ := D.ob
  refine ⟨_, hσ, p, dx, _, rfl, hp, dfl_no _ _ _ _ (by decide +kernel), _, hj, _, hk, p, d, room, c, gone, total, .str n, .int wt, rfl, D, thing_str n, thing_int wt, fun z e => ?_, fun n' w' e1 e2 _ _ H' d' h1 h2 h3 => ?_, fun e => ?_, fun _ e => ?_⟩
  · cases e
    exact name_size hn
  · cases e1
    cases e2
    exact q H' d' h1 h2 h3
  · rw [show isNameV (.str n) = true from hn] at e
    cases e
  · rw [show isWtV (.int wt) = true from hw] at e
    cases e
/-- a new Desk -/
theorem rd_new {t : TA} {r : Int} (ht : ∀ Q : List V → Hp → Prop, Q [.int r] H → t σ H Q) (h1 : 1 ≤ r) (h2 : r ≤ 50)
    (q : ∀ (p d : Addr) (H' : Hp), H p = none → H d = none → p ≠ d → Ex H H' → DeskAt C H' p d r [] 0 0 → Q (.ref p) H') : wMake C (spInit K C CD) [] E0 t σ H Q := by
  rw [wMake_eq]
  refine ht _ fun p dx hp hdx hne => ⟨p, .int r, dx, rfl, upd_same, thing_int r, fun r' e hr d H' hd off D => ?_, fun e => ?_⟩
  · cases e
    have nd : d ≠ p := fun z => by rw [z, upd_same] at hd; cases hd
    have nx : d ≠ dx := fun z => by rw [z, upd_ne hne, upd_same] at hd; cases hd
    refine ⟨rfl, q p d H' hp ?_ nd.symm (fun b o e => off b o (fun z => ?_) ?_) D⟩
    · rw [upd_ne nd, upd_ne nx] at hd
      exact hd
    · rw [List.mem_singleton.mp z, hp] at e
      cases e
    · rw [upd_ne (ne_of_none e hp), upd_ne (ne_of_none e hdx)]
      exact e
  · rw [show isRoomV (.int r) = true from decide_eq_true ⟨h1, h2⟩] at e
    cases e
end
theorem come_keys {room w : Int} {c : CM} {n m : Str} (h : m ∈ keysC (come room c n w).1) : m ∈ keysC c ∨ m = n := by
  have put : ∀ (c' : CM) (v : Int), m ∈ keysC (putC c' n v) → m ∈ keysC c' ∨ m = n := by
    intro c' v h
    rw [keys_put] at h
    split at h
    · exact .inl h
    · rcases List.mem_append.mp h with h | h
      · exact .inl h
      · exact .inr (List.mem_singleton.mp h)
  unfold come at h
  split at h
  · dsimp only at h
    split at h
    · rcases put _ _ h with h | h
      · exact .inl ((lowered_keys c _).subset h)
      · exact .inr h
    · exact .inl ((lowered_keys c _).subset h)
  · exact put _ _ h
theorem nodup_sub : ∀ {l m : List Str}, l.Nodup → (∀ x ∈ l, x ∈ m) → l.length ≤ m.length
  | [], _, _, _ => Nat.zero_le _
  | a :: l, m, nd, h => by
    obtain ⟨n1, n2⟩ := List.nodup_cons.mp nd
    have ha := h a (List.mem_cons_self ..)
    have := nodup_sub (m := m.erase a) n2 fun x hx => (List.mem_erase_of_ne (fun z : x = a => n1 (z ▸ hx))).mpr (h x (List.mem_cons_of_mem _ hx))
    rw [List.length_erase_of_mem ha] at this
    have hm : 0 < m.length := List.length_pos_of_mem ha
    rw [List.length_cons]
    omega
/-! ### reading statement by statement: what a test or a value comes to, for whatever is wanted behind -/
theorem sq_if {c : TT} {t rest : TS} {D : Ends} {σ : L2.St} {H : Hp} (P : Hp → Prop) (h : ∀ Q : Bool → Hp → Prop, (∀ H', P H' → Q false H') → c σ H Q) (k : ∀ H', P H' → rest D σ H') : tSeq (tIfS c t tNext) rest D σ H := h _ fun H' p => iteF (k H' p)
theorem sq_ifT {c : TT} {t rest : TS} {D : Ends} {σ : L2.St} {H : Hp} (P : Hp → Prop) (h : ∀ Q : Bool → Hp → Prop, (∀ H', P H' → Q true H') → c σ H Q) (k : ∀ H', P H' → t { D with nx := rest D } σ H') : tSeq (tIfS c t tNext) rest D σ H := h _ fun H' p => iteT (k H' p)
theorem sq_set {te : TE} {i : Nat} {rest : TS} {D : Ends} {σ : L2.St} {H : Hp} (P : V → Hp → Prop) (h : ∀ Q : VK, (∀ v H', P v H' → Q v H') → te σ H Q) (k : ∀ v H', P v H' → rest D (σ.set i (some v)) H') : tSeq (tAsg te (gName i)) rest D σ H := h _ fun v H' p => k v H' p
theorem sq_any {st rest : TS} {D : Ends} {σ : L2.St} {H : Hp} (P : L2.St → Hp → Prop) (h : ∀ D' : Ends, (∀ σ' H', P σ' H' → D'.nx σ' H') → st D' σ H) (k : ∀ σ' H', P σ' H' → rest D σ' H') : tSeq st rest D σ H := h { D with nx := rest D } k
section
variable {K : PySem.W.Frag} {σ : L2.St} {H : Hp} {Q : VK}
/-- sorted([k for k in d if ..]): the names of a table, those that pass -/
theorem keys_reads {tt : TT} {d : Addr} {c : CM} {i v : Nat} (f : Str → Bool) (hi : ∀ σ' : L2.St, σ' = σ → σ'[i]? = some (some (.ref d))) (hd : H d = some (.dK (kvc c))) (hl : c.length ≤ 63) (hw : ∀ n : Str, wipe ((wipe σ [v]).set v (some (.str n))) [v] = wipe σ [v]) (hv : ∀ n : Str, ((wipe σ [v]).set v (some (.str n)))[v]? = some (some (.str n)))
    (hc : ∀ (n : Str) (o : Obj) (H' : Hp) (Qb : Bool → Hp → Prop), n ∈ keysC c → H' d = some (.frz o (.dK (kvc c))) → Qb (f n) H' → tt ((wipe σ [v]).set v (some (.str n))) H' Qb)
    (q : ∀ (H' : Hp) (r : Addr), H r = none → Ex H H' → H' r = some (.lst ((sortS ((keysC c).filter f)).map V.str)) → Q (.ref r) H') :
    tCB (rSortedS K) (tCons (tLockE (wLc (iKeys (tVar i)) (gName v) tt (tVar v) [v])) tNil) σ H Q := by
  rw [wLc_eq]
  refine ⟨d, .dK (kvc c), hd, trivial, fun od => ?_⟩
  refine ⟨_, hi _ rfl, d, od, rfl, .inl ⟨kvc c, upd_same, fun L hL => ?_⟩⟩
  have dL : d ≠ L := fun z => by rw [← z, upd_same] at hL; cases hL
  have hL0 : H L = none := by
    rw [upd_ne dL.symm] at hL
    exact hL
  refine DK.lc_it (n := c.length) (fun i H2 => H2 d = some (.frz od (.dK (kvc c))) ∧ (∀ b o, b ≠ d → H b = some o → H2 b = some o) ∧ H2 L = some (.lst ((((keysC c).take i).filter f).map V.str)))
    ⟨by rw [upd_ne dL]; exact upd_same, fun b o hb e => by rw [upd_ne (ne_of_none e hL0), upd_ne hb]; exact e, upd_same⟩ ?_ ?_ ?_ ?_
  · rintro i H2 hi ⟨h1, h2, h3⟩
    exact ⟨h1, by rw [len_kvc]; exact hi⟩
  · rintro H2 ⟨h1, h2, h3⟩
    exact ⟨h1, by rw [len_kvc]; exact Nat.le_refl _⟩
  · rintro i H2 hi ⟨h1, h2, h3⟩ x H3 ⟨rfl, k, y, hk, rfl⟩
    have ei : c[i]? = some c[i] := List.getElem?_eq_getElem hi
    have e0 : (kvc c)[i]? = some (Sum.inr c[i].1, V.int c[i].2) := by
      unfold kvc
      rw [List.getElem?_map, ei]
      rfl
    rw [e0] at hk
    cases hk
    have ek : (keysC c)[i]? = some c[i].1 := by
      unfold keysC
      rw [List.getElem?_map, ei]
      rfl
    have hil : i < (keysC c).length := (List.getElem?_eq_some_iff.mp ek).1
    have tk : (keysC c).take (i + 1) = (keysC c).take i ++ [c[i].1] := by
      rw [List.take_succ_eq_append_getElem hil]
      rw [(List.getElem?_eq_some_iff.mp ek).2]
    refine ⟨hw _, hc _ od H3 _ (List.mem_of_getElem? ek) h1 ?_⟩
    refine ite2 (fun h => ?_) (fun h => ?_)
    · refine ⟨_, hv _, _, h3, small ?_, by rw [upd_ne dL]; exact h1, fun b o hb e => by rw [upd_ne (ne_of_none e hL0)]; exact h2 b o hb e, ?_⟩
      · rw [List.length_map]
        have a1 := List.length_filter_le f ((keysC c).take i)
        have a2 : ((keysC c).take i).length ≤ i := by rw [List.length_take]; omega
        omega
      · rw [upd_same, tk, List.filter_append, List.map_append, List.filter_cons_of_pos h]
        rfl
    · refine ⟨h1, h2, ?_⟩
      rw [h3, tk, List.filter_append, List.map_append, List.filter_cons_of_neg h]
      simp
  · rintro H2 ⟨h1, h2, h3⟩
    refine ⟨h1, L, (keysC c).filter f, rfl, SqL.of ?_, ?_, fun ys l pm so hl' => ?_⟩
    · rw [upd_ne dL.symm, h3, List.take_of_length_le (by unfold keysC; rw [List.length_map]; exact Nat.le_refl _)]
    · have a1 := List.length_filter_le f (keysC c)
      have a2 : (keysC c).length = c.length := by unfold keysC; rw [List.length_map]
      omega
    · have ex1 : Ex H (upd H2 d (.dK (kvc c))) := fun b o e => by
        by_cases hb : b = d
        · rw [hb, upd_same]
          rw [hb, hd] at e
          exact e
        · rw [upd_ne hb]
          exact h2 b o hb e
      refine q _ l (none_ex ex1 hl') (fun b o e => by rw [upd_ne (ne_of_none (ex1 b o e) hl')]; exact ex1 b o e) ?_
      rw [upd_same, sortS_eq pm (sortedS_pw so)]
/-- [x for x in l if ..] of texts of which none passes -/
theorem none_reads {te : TE} {tt : TT} {v : Nat} {xs : List Str} (hte : ∀ R : VK, (∀ (a : Addr) (H1 : Hp), Ex H H1 → H1 a = some (.lst (xs.map V.str)) → R (.ref a) H1) → te σ H R) (hw : ∀ n : Str, wipe ((wipe σ [v]).set v (some (.str n))) [v] = wipe σ [v])
    (hc : ∀ (n : Str) (H' : Hp) (Qb : Bool → Hp → Prop), n ∈ xs → Ex H H' → (∀ H'' : Hp, Ex H' H'' → Qb false H'') → tt ((wipe σ [v]).set v (some (.str n))) H' Qb)
    (q : ∀ (H' : Hp) (r : Addr), Ex H H' → H' r = some (.lst []) → Q (.ref r) H') :
    wLc (iList K te) (gName v) tt (tVar v) [v] σ H Q := by
  rw [wLc_eq]
  refine hte _ fun a H1 ex1 e1 => ?_
  refine ⟨a, rfl, ⟨_, SqL.of e1⟩, fun L hL => ?_⟩
  have aL := ne_of_none e1 hL
  refine lc_list (K := K) (a := a) (xs := xs.map V.str) (fun _ H2 => Ex H1 H2 ∧ H2 L = some (.lst [])) ⟨Evl.Ex.new hL, upd_same⟩ (fun i H2 _ h => SqL.of (h.1 _ _ e1)) ?_ ?_
  · rintro i x H2 hi ⟨h1, h2⟩
    obtain ⟨n, hn, rfl⟩ := List.mem_map.mp (List.mem_of_getElem? hi)
    exact ⟨hw n, hc n H2 _ hn (ex1.trans h1) fun H3 h3 => iteF ⟨h1.trans h3, h3 _ _ h2⟩⟩
  · rintro H2 ⟨h1, h2⟩
    exact q H2 L (ex1.trans h1) h2
end
theorem sum_permI {l m : List Int} (p : l.Perm m) : l.sum = m.sum := by
  induction p with
  | nil => rfl
  | cons x _ ih => rw [List.sum_cons, List.sum_cons, ih]
  | swap x y l =>
    simp only [List.sum_cons]
    omega
  | trans _ _ h1 h2 => exact h1.trans h2
theorem sum_perm {c c' : CM} (p : c'.Perm c) : sumC c' = sumC c := sum_permI (p.map _)
theorem iteD {c A B : Prop} [Decidable c] (hc : c) (h : A) : if decide c = true then A else B := by
  rw [if_pos (decide_eq_true hc)]
  exact h
section
variable {K : PySem.W.Frag} {C CN CW CD : Addr} {σ : L2.St} {H : Hp} {Q : VK}
/-- a number of a Desk that an expression gives -/
theorem rd_numA {ta : TE} {m : Str} {g : Int → Int → Int → Int} {room gone total : Int} {c : CM} (hm : (m == "room") = false ∧ (m == "counts") = false ∧ (m == "gone") = false ∧ (m == "total") = false)
    (ht : ∀ R : VK, (∀ (p d : Addr) (H' : Hp), Ex H H' → DeskAt C H' p d room c gone total → R (.ref p) H') → ta σ H R) (q : ∀ H' : Hp, Ex H H' → Q (.int (g room gone total)) H') : wMeth C m (spNum C g) [] E0 ta tNil σ H Q := by
  rw [wMeth_eq]
  refine ht _ fun p d H' e D => ?_
  obtain ⟨dx, hp⟩ := D.ob
  exact ⟨p, dx, _, rfl, hp, dfl_no _ _ _ _ hm, p, d, room, c, gone, total, rfl, D.rd, q H' e⟩
/-- a coming, the arguments as they are written -/
theorem rd_comeA {i : Nat} {p d : Addr} {room gone total : Int} {c : CM} {ta : TA} {n : Str} {wt : Int} (hσ : σ[i]? = some (some (.ref p))) (ht : ∀ R : List V → Hp → Prop, R [.str n, .int wt] H → ta σ H R) (D : DeskAt C H p d room c gone total) (hn : isName n = true) (hw : isWt wt = true)
    (q : ∀ (H' : Hp) (d' : Addr), (d' = d ∨ H d' = none) → Off [p, d] H H' → DeskAt C H' p d' room (come room c n wt).1 (gone + (come room c n wt).2) (total + wt) → Q .non H') : wMeth C "come" (spCome K C CN CW) [] E0 (tVar i) ta σ H Q := by
  rw [wMeth_eq]
  obtain ⟨dx, hp⟩ := D.ob
  refine ⟨_, hσ, p, dx, _, rfl, hp, dfl_no _ _ _ _ (by decide +kernel), ht _ ⟨p, d, room, c, gone, total, .str n, .int wt, rfl, D, thing_str n, thing_int wt, fun z e => ?_, fun n' w' e1 e2 _ _ H' d' h1 h2 h3 => ?_, fun e => ?_, fun _ e => ?_⟩⟩
  · cases e
    exact name_size hn
  · cases e1
    cases e2
    exact q H' d' h1 h2 h3
  · rw [show isNameV (.str n) = true from hn] at e
    cases e
  · rw [show isWtV (.int wt) = true from hw] at e
    cases e
end
section
variable {K : PySem.W.Frag} {C CN CW CD : Addr} {σ : L2.St} {H : Hp} {Q : VK}
/-- a coming to a Desk that an expression gives -/
theorem rd_comeI {p d : Addr} {room gone total : Int} {c : CM} {to : TE} {ta : TA} {n : Str} {wt : Int} (ho : ∀ R : VK, R (.ref p) H → to σ H R) (ht : ∀ R : List V → Hp → Prop, R [.str n, .int wt] H → ta σ H R) (D : DeskAt C H p d room c gone total) (hn : isName n = true) (hw : isWt wt = true)
    (q : ∀ (H' : Hp) (d' : Addr), (d' = d ∨ H d' = none) → Off [p, d] H H' → DeskAt C H' p d' room (come room c n wt).1 (gone + (come room c n wt).2) (total + wt) → Q .non H') : wMeth C "come" (spCome K C CN CW) [] E0 to ta σ H Q := by
  have h := rd_comeA (K := K) (CN := CN) (CW := CW) (σ := [some (.ref p)]) (i := 0) (ta := fun _ H' R => H' = H ∧ R [.str n, .int wt] H') rfl (fun R hR => ⟨rfl, hR⟩) D hn hw q
  rw [wMeth_eq] at h ⊢
  obtain ⟨v, hv, a, dx, fs, e1, e2, e3, _, h2⟩ := h
  cases hv
  cases e1
  exact ho _ ⟨p, dx, fs, rfl, e2, e3, ht _ h2⟩
end
/-! ### the state that a law keeps beside: a tuple of a table, what is lost, the sum -/
structure StAt (H : Hp) (a d : Addr) (c : CM) (g t : Int) : Prop where
  tp : H a = some (.tup [.ref d, .int g, .int t])
  dc : H d = some (.dK (kvc c))
theorem StAt.ex {H H' : Hp} {a d : Addr} {c : CM} {g t : Int} (S : StAt H a d c g t) (e : Ex H H') : StAt H' a d c g t := ⟨e _ _ S.tp, e _ _ S.dc⟩
theorem low_step {c : CM} {m : Int} {i : Nat} (nd : (keysC c).Nodup) (hi : i < c.length) : lowered (c.take (i + 1)) m = if m < c[i].2 then putC (lowered (c.take i) m) c[i].1 (c[i].2 - m) else lowered (c.take i) m := by
  have ei : c[i]? = some c[i] := List.getElem?_eq_getElem hi
  have tk : c.take (i + 1) = c.take i ++ [c[i]] := List.take_succ_eq_append_getElem hi
  have nk : hasC (lowered (c.take i) m) c[i].1 = false := by
    refine Bool.eq_false_iff.mpr fun hh => ?_
    have hk := (lowered_keys (c.take i) m).subset ((has_iff _ _).mp hh)
    unfold keysC at hk
    obtain ⟨j, hj⟩ := List.mem_iff_getElem?.mp hk
    rw [List.getElem?_map] at hj
    have hji : j < i := by
      refine Classical.byContradiction fun z => ?_
      rw [List.getElem?_take, if_neg z] at hj
      cases hj
    rw [List.getElem?_take, if_pos hji] at hj
    have a1 : (keysC c)[j]? = some c[i].1 := by
      unfold keysC
      rw [List.getElem?_map]
      exact hj
    have a2 : (keysC c)[i]? = some c[i].1 := by
      unfold keysC
      rw [List.getElem?_map, ei]
      rfl
    have := nd_ix nd a1 a2
    omega
  rw [tk]
  have ap : lowered (c.take i ++ [c[i]]) m = lowered (c.take i) m ++ lowered [c[i]] m := by
    unfold lowered
    rw [List.filter_append, List.map_append]
  rw [ap, lowered_cons]
  split
  · unfold putC
    rw [if_neg (by rw [nk]; exact Bool.false_ne_true)]
    rfl
  · show _ ++ [] = _
    rw [List.append_nil]
section
variable {K : PySem.W.Frag} {σ : L2.St} {H : Hp} {D : Ends}
/-- for k in d: with d not written -/
theorem st_keys {tb : TS} {d : Addr} {c : CM} {i v : Nat} (Pv : Obj → Nat → L2.St → Hp → Prop) (hσ : σ[i]? = some (some (.ref d))) (hd : H d = some (.dK (kvc c))) (h0 : ∀ o, Pv o 0 σ (upd H d (.frz o (.dK (kvc c)))))
    (hl : ∀ o j σ' H', Pv o j σ' H' → H' d = some (.frz o (.dK (kvc c))))
    (hs : ∀ o j σ' H' (hj : j < c.length), Pv o j σ' H' → ∀ D' : Ends, (∀ σ2 H2, Pv o (j + 1) σ2 H2 → D'.nx σ2 H2) → tb D' (σ'.set v (some (.str c[j].1))) H')
    (hn : ∀ o σ' H', Pv o c.length σ' H' → D.nx σ' (upd H' d (.dK (kvc c)))) : tLock (tFor (iKeys (tVar i)) (gName v) tb) D σ H := by
  refine ⟨d, .dK (kvc c), hd, trivial, fun od => ⟨_, hσ, d, od, rfl, .inl ⟨kvc c, upd_same, ?_⟩⟩⟩
  refine for_it (n := c.length) (Pv od) (h0 od) ?_ ?_ ?_ ?_
  · intro j σ' H' hj h
    exact ⟨hl _ _ _ _ h, by rw [len_kvc]; exact hj⟩
  · intro σ' H' h
    exact ⟨hl _ _ _ _ h, by rw [len_kvc]; exact Nat.le_refl _⟩
  · rintro j σ' H' hj h x H3 ⟨rfl, k, y, hk, rfl⟩
    have e0 : (kvc c)[j]? = some (Sum.inr c[j].1, V.int c[j].2) := by
      unfold kvc
      rw [List.getElem?_map, List.getElem?_eq_getElem hj]
      rfl
    rw [e0] at hk
    cases hk
    exact hs od j σ' H3 hj h _ fun σ2 H2 h2 => h2
  · intro σ' H' h
    exact ⟨hl _ _ _ _ h, hn _ _ _ h⟩
end
theorem getC_at {c : CM} (nd : (keysC c).Nodup) {i : Nat} (hi : i < c.length) : getC c c[i].1 = some c[i].2 := (getC_mem nd).mpr (List.getElem_mem hi)
/-! ### a Desk of given counts -/
section
variable {P : Program} {w : World} {K : PySem.W.Frag} {mg : Str → Option Value} {base : Heap} {C CN CW CD CQ : Addr}
def spDeskOf (C : Addr) : Sp := fun vs H Q _ => ∃ (r : Int) (d : Addr) (c : CM) (g t : Int), vs = [.int r, .ref d, .int g, .int t] ∧ 1 ≤ r ∧ r ≤ 50 ∧ H d = some (.dK (kvc c)) ∧ (keysC c).Nodup ∧ c.length ≤ 1000 ∧
  ∀ (H' : Hp) (p d' : Addr), Ex H H' → H p = none → H d' = none → DeskAt C H' p d' r (lowered c (cutAt r c)) (g + cutAt r c) t → Q (.ref p) H'
theorem ok_deskOf {f fI : Addr} {fd fdI : FuncData} (F : Fun K "desk_of" "desk_of" sDeskOf f fd) (T : DkT K mg C CN CW CD) (MI : Mk K C fI) (GI : FnOk P w K mg base (L2.CX P w) 3 fI fdI pDInit (spInit K C CD)) (bI : Binds K fdI pDInit [])
    (GL : Gf P w K mg base CX0 1 "lowered" pLowered spLowered) : FnOk P w K mg base CX0 5 f fd pDeskOf (spDeskOf C) := by
  obtain ⟨fL, fdL, gL, bL, mL, kL⟩ := GL.ex
  refine F.ok cDeskOf (fun vs H Q E h => ?_) (fun cdv A outer s H vs Q E hr h => ?_)
  · obtain ⟨r, d, c, g, t, rfl, _⟩ := h
    rfl
  · obtain ⟨r, d, c, g, t, rfl, r1, r2, hd, nd, hl, q⟩ := h
    refine ⟨_, pss_cons (ps_set (i := 4) cDeskOf.nd rfl (Or.inl rfl) (pe_make MI GI hr rfl T.mgC bI .nil passL (pa_cons (pv 0) pa_nil)))
      (pss_cons (ps_set (i := 5) cDeskOf.nd rfl (Or.inl rfl) (pe_callBK (cr_sortedVR rfl) (by rfl) T.srt (by decide +kernel) (pa_cons (pe_bm0 PySem.F.plainAttrs_dict PySem.F.slot_dict_values PySem.F.type_dict_values mt_vals (pv 1)) pa_nil) (pk_cons pe_bl pk_nil)))
      (pss_cons (ps_set (i := 6) cDeskOf.nd rfl (Or.inl rfl) pe_int)
      (pss_cons (ps_if (pt_cmpR op_gt (pe_callB call_len_seq (by rfl) T.len PySem.boot_len (pa_cons (pv 5) pa_nil)) (pv 0) (nomark _)) (pss_one (ps_set (i := 6) cDeskOf.nd rfl (Or.inl rfl) (pe_ix ix_list (pv 5) (pv 0) (fun _ _ => rfl)))) pss_nil)
      (pss_cons (ps_fld (pv 4) (pe_call gL (hr.mono (by decide)) rfl mL kL bL .nil pass0 (pa_cons (pv 1) (pa_cons (pv 6) pa_nil))) rfl)
      (pss_cons (ps_fld (pv 4) (pe_op op_add (pv 2) (pv 6)) rfl)
      (pss_cons (ps_fld (pv 4) (pv 3) rfl)
      (pss_one (ps_ret (pv 4))))))))), ?_⟩
    rw [← wMake_eq]
    refine sq_any (fun σ' H' => ∃ (p d0 : Addr), σ' = [some (.int r), some (.ref d), some (.int g), some (.int t), some (.ref p), none, none] ∧ H p = none ∧ Ex H H' ∧ DeskAt C H' p d0 r [] 0 0)
      (fun D' hD => rd_new (fun Q' h' => ⟨_, rfl, h'⟩) r1 r2 fun p d0 H1 np nd0 _ ex1 D0 => hD _ _ ⟨p, d0, rfl, np, ex1, D0⟩) ?_
    rintro σ' H1 ⟨p, d0, rfl, np, ex1, D0⟩
    refine sq_any (fun σ' H' => ∃ l : Addr, σ' = [some (.int r), some (.ref d), some (.int g), some (.int t), some (.ref p), some (.ref l), none] ∧ Ex H1 H' ∧ H' l = some (.lst ((falls (valsC c)).map V.int))) (fun D' hD => ?_) ?_
    · have hd1 := ex1 _ _ hd
      refine ⟨_, rfl, (.inr (.inr (.inl ⟨rfl, .inl ⟨_, hd1⟩⟩))), d, kvc c, rfl, rfl, hd1, fun v hv => ⟨rfl, v, d, kvc c, valsC c, rfl, upd_same, by rw [upd_ne (ne_of_none hd1 hv)]; exact hd1, snd_kvc c, fun ns' l pm so hl' => ?_⟩⟩
      rw [falls_eq pm so]
      exact hD _ _ ⟨l, rfl, (Evl.Ex.new hv).trans (Evl.Ex.new hl'), upd_same⟩
    rintro σ' H2 ⟨l, rfl, ex2, el⟩
    refine sq_any (fun σ' H' => σ' = [some (.int r), some (.ref d), some (.int g), some (.int t), some (.ref p), some (.ref l), some (.int 0)] ∧ H2 = H') (fun D' hD => hD _ _ ⟨rfl, rfl⟩) ?_
    rintro σ' _ ⟨rfl, rfl⟩
    refine sq_any (fun σ' H' => σ' = [some (.int r), some (.ref d), some (.int g), some (.int t), some (.ref p), some (.ref l), some (.int (cutAt r c))] ∧ H2 = H') (fun D' hD => ?_) ?_
    · refine ⟨_, rfl, l, _, rfl, .inl (SqL.of el), _, rfl, _, _, rfl, rfl, _, rfl, ?_⟩
      rw [List.length_map, falls_len]
      refine ite2 (fun h => ?_) (fun h => ?_)
      · have h := of_decide_eq_true h
        obtain ⟨k, hk⟩ : ∃ k : Nat, r = (k : Int) := ⟨r.toNat, by omega⟩
        have hc := cut_at (by omega) h
        refine ⟨_, rfl, _, rfl, l, _, r, .int (cutAt r c), rfl, rfl, SqL.of el, ?_, hD _ _ ⟨rfl, rfl⟩⟩
        rw [hk] at hc ⊢
        refine atI_nat ?_
        rw [List.getElem?_map]
        simp only [Int.toNat_natCast] at hc
        rw [hc]
        rfl
      · have h : ¬ r < (c.length : Int) := fun z => h (decide_eq_true z)
        rw [cut_few h] at hD
        exact hD _ _ ⟨rfl, rfl⟩
    rintro σ' _ ⟨rfl, rfl⟩
    obtain ⟨dx, hp⟩ := (D0.ex ex2).ob
    have exH2 : Ex H H2 := ex1.trans ex2
    refine sq_any (fun σ' H' => ∃ d' : Addr, σ' = [some (.int r), some (.ref d), some (.int g), some (.int t), some (.ref p), some (.ref l), some (.int (cutAt r c))] ∧ H d' = none ∧ Ex H H' ∧ H' p = some (.ins C dx (dfl r d' 0 0)) ∧ H' d' = some (.dK (kvc (lowered c (cutAt r c))))) (fun D' hD => ?_) ?_
    · refine ⟨_, rfl, _, rfl, d, c, _, rfl, exH2 _ _ hd, nd, hl, fun H3 d' hd' ex3 ed' => ?_⟩
      have hp3 := ex3 _ _ hp
      have npd : p ≠ d' := ne_of hp3 ed' (fun z => nomatch z)
      refine ⟨_, rfl, p, C, dx, _, rfl, hp3, T.cl, T.nC, (by show 4 < 1000; decide), ?_⟩
      rw [dfl_put_counts]
      refine hD _ _ ⟨d', rfl, none_ex exH2 hd', fun b o e => ?_, upd_same, by rw [upd_ne npd.symm]; exact ed'⟩
      rw [upd_ne (ne_of_none e np)]
      exact ex3 _ _ (exH2 _ _ e)
    rintro σ' H3 ⟨d', rfl, nd', ex3, hp3, hd3⟩
    have npd : p ≠ d' := ne_of hp3 hd3 (fun z => nomatch z)
    refine sq_any (fun σ' H' => σ' = [some (.int r), some (.ref d), some (.int g), some (.int t), some (.ref p), some (.ref l), some (.int (cutAt r c))] ∧ Ex H H' ∧ H' p = some (.ins C dx (dfl r d' (g + cutAt r c) 0)) ∧ H' d' = some (.dK (kvc (lowered c (cutAt r c))))) (fun D' hD => ?_) ?_
    · refine ⟨_, rfl, _, rfl, _, _, rfl, rfl, _, rfl, p, C, dx, _, rfl, hp3, T.cl, T.nG, (by show 4 < 1000; decide), ?_⟩
      rw [dfl_put_gone]
      refine hD _ _ ⟨rfl, fun b o e => ?_, upd_same, by rw [upd_ne npd.symm]; exact hd3⟩
      rw [upd_ne (ne_of_none e np)]
      exact ex3 _ _ e
    rintro σ' H4 ⟨rfl, ex4, hp4, hd4⟩
    refine sq_any (fun σ' H' => σ' = [some (.int r), some (.ref d), some (.int g), some (.int t), some (.ref p), some (.ref l), some (.int (cutAt r c))] ∧ Ex H H' ∧ H' p = some (.ins C dx (dfl r d' (g + cutAt r c) t)) ∧ H' d' = some (.dK (kvc (lowered c (cutAt r c))))) (fun D' hD => ?_) ?_
    · refine ⟨_, rfl, _, rfl, p, C, dx, _, rfl, hp4, T.cl, T.nT, (by show 4 < 1000; decide), ?_⟩
      rw [dfl_put_total]
      refine hD _ _ ⟨rfl, fun b o e => ?_, upd_same, by rw [upd_ne npd.symm]; exact hd4⟩
      rw [upd_ne (ne_of_none e np)]
      exact ex4 _ _ e
    rintro σ' H5 ⟨rfl, ex5, hp5, hd5⟩
    exact ⟨_, rfl, q H5 p d' ex5 np nd' ⟨⟨dx, hp5⟩, hd5, lowered_nodup nd, cut_len (by omega), r1, r2⟩⟩
end
/-! ### texts: written -/
theorem ip_addS {X : Cx} : PIp X .Add (fun x y H Q => ∃ i j, x = .str i ∧ y = .str j ∧ i.length + j.length ≤ sizeLine ∧ Q (.str (i ++ j)) H) := fun pins s σ H x y v u Q I r1 r2 h => iop_add_str pins s σ H x y v u Q I r1 r2 h
/-- a statement that is not come to -/
def tDead : TS := fun _ _ _ => False
theorem ps_dead {X : Cx} {st : Stmt} : PS X st tDead := ⟨fun _ _ _ _ _ _ h => h.elim⟩
theorem log_most {i : Int} (h0 : 0 ≤ i) (h : i ≤ mostN) : i.natAbs.log2 < 1920 := by
  by_cases hz : i.natAbs = 0
  · rw [hz]; decide
  · refine (Nat.log2_lt hz).mpr ?_
    have e : i.natAbs ≤ 10000000000000000000000000000000000000000000000000000000000000000000000 := by
      have h2 : i ≤ 10000000000000000000000000000000000000000000000000000000000000000000000 := h
      omega
    refine Nat.lt_of_le_of_lt e ?_
    decide +kernel
/-- the numbers of a desk that a text can tell -/
structure Nums (r : Int) (c : CM) (g t : Int) : Prop where
  nm : ∀ e ∈ c, isName e.1 = true
  v0 : ∀ e ∈ c, 0 ≤ e.2
  v1 : ∀ e ∈ c, e.2 ≤ mostN
  g0 : 0 ≤ g
  g1 : g ≤ mostN
  t0 : 0 ≤ t
  t1 : t ≤ mostN
section
variable {P : Program} {w : World} {K : PySem.W.Frag} {mg : Str → Option Value} {base : Heap} {C CN CW CD : Addr}
def spWritten (C : Addr) : Sp := fun vs H Q _ => ∃ (p d : Addr) (r : Int) (c : CM) (g t : Int), vs = [.ref p] ∧ DeskAt C H p d r c g t ∧ Nums r c g t ∧ ∀ H' : Hp, Ex H H' → Q (.str (textT r (sortC c) g t)) H'
theorem ok_written {f : Addr} {fd : FuncData} (F : Fun K "written" "written" sWritten f fd) (T : DkT K mg C CN CW CD) (GS : Gm P w K mg base CX0 C 1 "shown" pDShown (spShown C)) (GL : Gm P w K mg base CX0 C 1 "lost" pDLost (spNum C fun _ g _ => g))
    (GW : Gm P w K mg base CX0 C 1 "weight" pDWeight (spNum C fun _ _ t => t)) (GR : Gm P w K mg base CX0 C 1 "drawers" pDDrawers (spNum C fun r _ _ => r)) (zs : mg "str" = none) : FnOk P w K mg base CX0 2 f fd pWritten (spWritten C) := by
  obtain ⟨f2, fd2, gSh, bSh, mSh⟩ := GS.ex
  obtain ⟨f3, fd3, gLo, bLo, mLo⟩ := GL.ex
  obtain ⟨f4, fd4, gWe, bWe, mWe⟩ := GW.ex
  obtain ⟨f5, fd5, gDr, bDr, mDr⟩ := GR.ex
  refine F.ok cWritten (fun vs H Q E h => ?_) (fun cdv A outer s H vs Q E hr h => ?_)
  · obtain ⟨p, d, r, c, g, t, rfl, _⟩ := h
    rfl
  · obtain ⟨p, d, r, c, g, t, rfl, D, N, q⟩ := h
    refine ⟨_, pss_cons (ps_set (i := 1) cWritten.nd rfl (Or.inl rfl) (pe_op op_add_str (pe_bm PySem.F.plainAttrs_str PySem.F.slot_str_join PySem.F.type_str_join mt_join pe_str (pa_cons (pe_lst (pa_cons pe_str
          (pa_cons (pe_callTy call_str_int (by rfl) zs (by decide +kernel) (pa_cons (pe_meth0 (pv 0) T.cl mDr gDr hr bDr .nil pass0) pa_nil)) (pa_cons (pe_callTy call_str_int (by rfl) zs (by decide +kernel) (pa_cons (pe_meth0 (pv 0) T.cl mLo gLo hr bLo .nil pass0) pa_nil))
          (pa_cons (pe_callTy call_str_int (by rfl) zs (by decide +kernel) (pa_cons (pe_meth0 (pv 0) T.cl mWe gWe hr bWe .nil pass0) pa_nil)) pa_nil))))) pa_nil)) pe_str))
      (pss_cons (ps_for PassesOwn.never rfl (pi_items (pe_frz (pe_meth0 (pv 0) T.cl mSh gSh hr bSh .nil pass0))) (pg_tup rfl (pgs_cons (pg_name (i := 2) cWritten.nd rfl (Or.inl rfl)) (pgs_cons (pg_name (i := 3) cWritten.nd rfl (Or.inl rfl)) pgs_nil)))
        (pss_one (ps_aug (i := 1) cWritten.nd rfl (Or.inl rfl) (pe_op op_add_str (pe_op op_add_str (pe_op op_add_str (pv 2) pe_str) (pe_callTy call_str_int (by rfl) zs (by decide +kernel) (pa_cons (pv 3) pa_nil))) pe_str) ip_addS)))
      (pss_one (ps_ret (pv 1)))), ?_⟩
    rw [← wMeth_eq]
    have r1 := D.r1
    have r2 := D.r2
    have rm : r ≤ mostN := by have h : (50 : Int) ≤ mostN := by decide
                              omega
    have four : 4 ≤ sizeLine := by rw [sizeLine_eq]; decide
    have l50 := D.len
    have scl := sortC_len c
    have sm : ∀ e ∈ sortC c, isName e.1 = true ∧ 0 ≤ e.2 ∧ e.2 ≤ mostN := fun e he => by
      have h := (sortC_perm c).mem_iff.mp he
      exact ⟨N.nm e h, N.v0 e h, N.v1 e h⟩
    have nl : ("\n" : Str).length = 1 := by decide +kernel
    have bl : (" " : Str).length = 1 := by decide +kernel
    have hln := head_len (by omega) rm N.g0 N.g1 N.t0 N.t1 (r := r)
    refine sq_any (fun σ' H' => σ' = [some (.ref p), some (.str (textT r [] g t)), none, none] ∧ Ex H H') (fun D' hD => ?_) ?_
    · refine ⟨rfl, ?_⟩
      refine rd_num (by decide +kernel) rfl D ?_
      refine ⟨r, rfl, log_most (by omega) rm, ?_⟩
      refine rd_num (by decide +kernel) rfl D ?_
      refine ⟨g, rfl, log_most N.g0 N.g1, ?_⟩
      refine rd_num (by decide +kernel) rfl D ?_
      refine ⟨t, rfl, log_most N.t0 N.t1, ?_⟩
      refine ⟨four, fun l hl => ?_⟩
      refine ⟨" ", l, [("desk" : Str), numS r, numS g, numS t], rfl, rfl, .inl (SqL.of upd_same), ?_, _, _, rfl, rfl, ?_, hD _ _ ⟨?_, Evl.Ex.new hl⟩⟩
      · have a1 := num_len_le (by omega) rm (i := r)
        have a2 := num_len_le N.g0 N.g1
        have a3 := num_len_le N.t0 N.t1
        have a4 : ("desk" : Str).length = 4 := by decide +kernel
        show ("desk" : Str).length + ((numS r).length + ((numS g).length + ((numS t).length + 0))) + 4 * (" " : Str).length ≤ 16777216
        omega
      · show (headT r g t).length + ("\n" : Str).length ≤ sizeLine
        rw [nl, sizeLine_eq]
        omega
      · rw [text_nil]
        rfl
    rintro σ' H1 ⟨rfl, ex1⟩
    refine sq_any (fun σ' H' => ∃ v2 v3 : Option V, σ' = [some (.ref p), some (.str (textT r (sortC c) g t)), v2, v3] ∧ Ex H H') (fun D' hD => ?_) ?_
    · refine rd_shown rfl (D.ex ex1) fun H2 x hx ex2 ex' => ?_
      have x0 : H x = none := none_ex ex1 hx
      refine ⟨x, _, rfl, ex', trivial, fun od => ⟨x, od, kvc (sortC c), rfl, upd_same, ?_⟩⟩
      refine for_it (n := (sortC c).length) (fun i σ H3 => ∃ v2 v3 : Option V, σ = [some (.ref p), some (.str (textT r ((sortC c).take i) g t)), v2, v3] ∧ Ex H H3 ∧ H3 x = some (.frz od (.dK (kvc (sortC c)))))
        ⟨none, none, rfl, fun b o e => by rw [upd_ne (ne_of_none e x0)]; exact ex2 _ _ (ex1 _ _ e), upd_same⟩ ?_ ?_ ?_ ?_
      · rintro i σ H3 hi ⟨v2, v3, rfl, h1, h2⟩
        exact ⟨h2, by rw [len_kvc]; exact hi⟩
      · rintro σ H3 ⟨v2, v3, rfl, h1, h2⟩
        exact ⟨h2, by rw [len_kvc]; exact Nat.le_refl _⟩
      · rintro i σ H3 hi ⟨v2, v3, rfl, h1, h2⟩ z H4 ⟨T1, k, v, hk, rfl, hT, rfl⟩
        have e0 : (kvc (sortC c))[i]? = some (Sum.inr (sortC c)[i].1, V.int (sortC c)[i].2) := by
          unfold kvc
          rw [List.getElem?_map, List.getElem?_eq_getElem hi]
          rfl
        rw [e0] at hk
        cases hk
        have xT : x ≠ T1 := ne_of_none h2 hT
        have tk : (sortC c).take (i + 1) = (sortC c).take i ++ [(sortC c)[i]] := List.take_succ_eq_append_getElem hi
        have me := sm _ (List.getElem_mem hi)
        have n8 := name_len me.1
        have n71 := num_len_le me.2.1 me.2.2
        have tl := text_len (by omega) rm N.g0 N.g1 N.t0 N.t1 (r := r) ((sortC c).take i) fun e he => sm e (List.mem_of_mem_take he)
        rw [List.length_take] at tl
        have n1 : ((sortC c)[i].1 ++ (" " : Str)).length = (sortC c)[i].1.length + 1 := by rw [str_len_app, bl]
        have n2 : ((sortC c)[i].1 ++ (" " : Str) ++ numS (sortC c)[i].2).length = (sortC c)[i].1.length + 1 + (numS (sortC c)[i].2).length := by rw [str_len_app, n1]
        have n3 : ((sortC c)[i].1 ++ (" " : Str) ++ numS (sortC c)[i].2 ++ ("\n" : Str)).length = (sortC c)[i].1.length + 1 + (numS (sortC c)[i].2).length + 1 := by rw [str_len_app, n2, nl]
        refine ⟨T1, _, rfl, SqT.of upd_same, rfl, _, _, rfl, _, _, rfl, rfl, ?_⟩
        refine ⟨_, rfl, _, rfl, _, _, rfl, rfl, by rw [bl, sizeLine_eq]; omega, _, rfl, _, rfl, log_most me.2.1 me.2.2, _, _, rfl, rfl, by rw [n1, sizeLine_eq]; show _ + (numS (sortC c)[i].2).length ≤ _; omega, _, _, rfl, rfl, ?_, ?_⟩
        · show ((sortC c)[i].1 ++ (" " : Str) ++ numS (sortC c)[i].2).length + ("\n" : Str).length ≤ sizeLine
          rw [n2, nl, sizeLine_eq]
          omega
        refine ⟨_, _, rfl, rfl, ?_, ?_⟩
        · show _ + ((sortC c)[i].1 ++ (" " : Str) ++ numS (sortC c)[i].2 ++ ("\n" : Str)).length ≤ sizeLine
          rw [n3, sizeLine_eq]
          omega
        refine ⟨some (.str (sortC c)[i].1), some (.int (sortC c)[i].2), ?_, fun b o e => ?_, ?_⟩
        · rw [tk, text_snoc]
          rfl
        · rw [upd_ne (ne_of_none (h1 _ _ e) hT)]
          exact h1 _ _ e
        · rw [upd_ne xT]
          exact h2
      · rintro σ H3 ⟨v2, v3, rfl, h1, h2⟩
        rw [List.take_of_length_le (Nat.le_refl _)]
        exact hD _ _ ⟨v2, v3, rfl, h1⟩
    rintro σ' H2 ⟨v2, v3, rfl, ex2⟩
    exact ⟨_, rfl, q H2 ex2⟩
end
/-! ### texts: the words of a row -/
theorem sq_ifB {c : TT} {t rest : TS} {D : Ends} {σ : L2.St} {H : Hp} (b : Bool) (h : ∀ Q : Bool → Hp → Prop, Q b H → c σ H Q) (kt : b = true → t { D with nx := rest D } σ H) (kf : b = false → rest D σ H) : tSeq (tIfS c t tNext) rest D σ H := by
  refine h _ ?_
  cases b with
  | true => exact (if_pos rfl).mpr (kt rfl)
  | false => exact (if_neg Bool.false_ne_true).mpr (kf rfl)
section
variable {P : Program} {w : World} {K : PySem.W.Frag} {mg : Str → Option Value} {base : Heap} {C CN CW CD : Addr}
def ovV : Option Int → V
  | some n => .int n
  | none => .non
def spNumOf : Sp := fun vs H Q _ => ∃ (z : Str) (lo hi : Int), vs = [.str z, .int lo, .int hi] ∧ z.length ≤ sizeLine ∧ Q (ovV (numOf z lo hi)) H
theorem ok_numOf {f : Addr} {fd : FuncData} (F : Fun K "number_of" "number_of" sNumberOf f fd) (zl : mg "len" = none) (zi : mg "int" = none) {tF : Tok} (mF : mg "FIGURES" = some (.str figures tF)) : FnOk P w K mg base CX0 1 f fd pNumberOf spNumOf := by
  refine F.ok cNumberOf (fun vs H Q E h => ?_) (fun cdv A outer s H vs Q E hr h => ?_)
  · obtain ⟨z, lo, hi, rfl, _⟩ := h
    rfl
  · obtain ⟨z, lo, hi, rfl, hz, q⟩ := h
    refine ⟨_, pss_cons (ps_if (PW.pt (pw_or (pt_not (pt_chain op_lt op_lt pe_int (pe_callB call_len_str (by rfl) zl PySem.boot_len (pa_cons (pv 0) pa_nil)) pe_int))
          (pw_or (pt_cmpR op_ne (pe_bm PySem.F.plainAttrs_str PySem.F.slot_str_strip PySem.F.type_str_strip mt_stripChars (pv 0) (pa_cons (pe_gstr mF (by rfl)) pa_nil)) pe_str (nomark _))
          (pw_or1 (PW.pt (pw_and (pt_cmpR op_eq (pe_ix ix_str (pv 0) pe_int (fun _ _ => rfl)) pe_str (nomark _)) (pw_and1 (pt_cmpR op_gt (pe_callB call_len_str (by rfl) zl PySem.boot_len (pa_cons (pv 0) pa_nil)) pe_int (nomark _)))))))))
        (pss_one (ps_ret pe_non)) pss_nil)
      (pss_cons (ps_set (i := 3) cNumberOf.nd rfl (Or.inl rfl) (pe_callTy call_int_str (by rfl) zi (by decide +kernel) (pa_cons (pv 0) pa_nil)))
      (pss_cons (ps_if (pt_not (pt_chain op_le op_le (pv 1) (pv 3) (pv 2))) (pss_one (ps_ret pe_non)) pss_nil)
      (pss_one (ps_ret (pv 3))))), ?_⟩
    have no : (decide (0 < z.length ∧ z.length < 73) && (cs z).all digC && !(decide ((cs z)[0]? = some 48) && decide (1 < z.length))) = false → Q .non H := fun h => by
      unfold numOf at q
      rw [h, if_neg Bool.false_ne_true] at q
      exact q
    generalize hb : (decide (0 < z.length ∧ z.length < 73) && (cs z).all digC && !(decide ((cs z)[0]? = some 48) && decide (1 < z.length))) = b at no
    refine sq_ifB (!b) (fun Q' hQ => ?_) (fun hbt => no (by rw [Bool.not_eq_true'] at hbt; exact hbt)) (fun hbf => ?_)
    · have no : b = false → Q' true H := fun h => by rw [h] at hQ; exact hQ
      have hD' : b = true → Q' false H := fun h => by rw [h] at hQ; exact hQ
      rw [← hb] at no hD'
      refine ⟨_, rfl, z, rfl, hz, _, _, rfl, rfl, _, rfl, ?_⟩
      refine ite2 (fun h1 => ?_) (fun h1 => ?_)
      · have f1 : (0 : Int) < (z.length : Int) := of_decide_eq_true h1
        refine ⟨_, _, rfl, rfl, _, rfl, ?_⟩
        cases h2 : decide ((z.length : Int) < 73) with
        | true =>
          have f2 := of_decide_eq_true h2
          have f12 : decide (0 < z.length ∧ z.length < 73) = true := decide_eq_true ⟨by omega, by omega⟩
          refine iteF ?_
          refine ⟨_, rfl, rfl, _, _, rfl, rfl, hz, rfl, _, rfl, ?_⟩
          rw [strip_figures z]
          cases h3 : (cs z).all digC with
          | true =>
            refine iteF ?_
            obtain ⟨c0, hc0⟩ : ∃ c0, (cs z)[0]? = some c0 := ⟨(cs z)[0]'(by rw [← cs_len]; omega), List.getElem?_eq_getElem (by rw [← cs_len]; omega)⟩
            refine ⟨_, rfl, z, 0, c0, rfl, rfl, hz, atI_nat (j := 0) hc0, rfl, _, rfl, ?_⟩
            have e0 : decide (V.str ⟨#[c0]⟩ = V.str "0") = decide ((cs z)[0]? = some 48) := by
              rw [hc0]
              have ez : ("0" : Str) = ⟨#[48]⟩ := by decide +kernel
              rw [ez]
              by_cases hc : c0 = 48
              · subst hc
                rw [decide_eq_true rfl, decide_eq_true rfl]
              · rw [decide_eq_false fun e => hc ?_, decide_eq_false fun e => hc (Option.some.inj e)]
                have e1 : ([c0] : List Nat) = [48] := congrArg (fun s : Str => s.cps.toList) (V.str.inj e)
                exact (List.cons.inj e1).1
            rw [e0]
            cases h4 : decide ((cs z)[0]? = some 48) with
            | true =>
              refine ⟨_, rfl, z, rfl, hz, _, _, rfl, rfl, _, rfl, ?_⟩
              cases h5 : decide (1 < (z.length : Int)) with
              | true =>
                have : decide (1 < z.length) = true := decide_eq_true (by have := of_decide_eq_true h5; omega)
                refine no ?_
                rw [h4, this, Bool.and_self, Bool.not_true, Bool.and_false]
              | false =>
                have : decide (1 < z.length) = false := decide_eq_false (by have := of_decide_eq_false h5; omega)
                refine hD' ?_
                rw [f12, h3, h4, this]
                rfl
            | false =>
              refine hD' ?_
              rw [f12, h3, h4]
              rfl
          | false =>
            refine iteT (no ?_)
            rw [h3, Bool.and_false, Bool.false_and]
        | false =>
          refine iteT (no ?_)
          rw [decide_eq_false (show ¬ (0 < z.length ∧ z.length < 73) from fun h => of_decide_eq_false h2 (by omega)), Bool.false_and, Bool.false_and]
      · refine ⟨_, rfl, iteT (no ?_)⟩
        have f1 : ¬ (0 : Int) < (z.length : Int) := fun h => h1 (decide_eq_true h)
        rw [decide_eq_false (show ¬ (0 < z.length ∧ z.length < 73) by omega), Bool.false_and, Bool.false_and]
    have hb : (decide (0 < z.length ∧ z.length < 73) && (cs z).all digC && !(decide ((cs z)[0]? = some 48) && decide (1 < z.length))) = true := by
      rw [hb]
      rw [Bool.not_eq_false'] at hbf
      exact hbf
    have hb' := hb
    rw [Bool.and_eq_true, Bool.and_eq_true] at hb'
    have hl := of_decide_eq_true hb'.1.1
    have hi' := figs_int hl.1 hl.2 hb'.1.2
    unfold numOf at q
    rw [hb, if_pos rfl] at q
    refine ⟨_, rfl, z, _, rfl, hi'.1, hi'.2, ?_⟩
    refine ⟨_, rfl, _, rfl, _, _, rfl, rfl, _, rfl, ?_⟩
    refine ite2 (fun h1 => ?_) (fun h1 => ?_)
    · have f1 := of_decide_eq_true h1
      refine ⟨_, rfl, _, _, rfl, rfl, _, rfl, ?_⟩
      cases h2 : decide (((NumText.digitsVal (cs z) : Nat) : Int) ≤ hi) with
      | true =>
        rw [if_pos ⟨f1, of_decide_eq_true h2⟩] at q
        exact iteF ⟨_, rfl, q⟩
      | false =>
        rw [if_neg fun h => of_decide_eq_false h2 h.2] at q
        exact iteT q
    · rw [if_neg fun h => h1 (decide_eq_true h.1)] at q
      exact ⟨_, rfl, iteT q⟩
def spHeadOf : Sp := fun vs H Q _ => ∃ (z : Str), vs = [.str z] ∧ z.length + 2 ≤ sizeLine ∧ (headOf z = none → ∀ H' : Hp, Ex H H' → Q .non H') ∧ (∀ r g t, headOf z = some (r, g, t) → ∀ (H' : Hp) (l : Addr), Ex H H' → H l = none → H' l = some (.lst [.int r, .int g, .int t]) → Q (.ref l) H')
theorem four_of {α : Type} {l : List α} (h : l.length = 4) : ∃ a b c d, l = [a, b, c, d] := by
  match l, h with
  | [a, b, c, d], _ => exact ⟨a, b, c, d, rfl⟩
theorem two_of {α : Type} {l : List α} (h : l.length = 2) : ∃ a b, l = [a, b] := by
  match l, h with
  | [a, b], _ => exact ⟨a, b, rfl⟩
theorem head_not4 {z : Str} (h : ¬ (Txt.split z " ").length = 4) : headOf z = none := by
  unfold headOf
  generalize Txt.split z " " = ws at h
  match ws, h with
  | [], _ => rfl
  | [_], _ => rfl
  | [_, _], _ => rfl
  | [_, _, _], _ => rfl
  | [_, _, _, _], h => exact absurd rfl h
  | _ :: _ :: _ :: _ :: _ :: _, _ => rfl
theorem pair_not2 {z : Str} (h : ¬ (Txt.split z " ").length = 2) : pairOf z = none := by
  unfold pairOf
  generalize Txt.split z " " = ws at h
  match ws, h with
  | [], _ => rfl
  | [_], _ => rfl
  | [_, _], h => exact absurd rfl h
  | _ :: _ :: _ :: _, _ => rfl
theorem ov_flat (o : Option Int) : flatV (ovV o) = true := by
  cases o <;> rfl
theorem ov_in (a b c : Option Int) : inV .non [ovV a, ovV b, ovV c] = (decide (a = none) || decide (b = none) || decide (c = none)) := by
  cases a <;> cases b <;> cases c <;> rfl
theorem ok_headOf {f : Addr} {fd : FuncData} (F : Fun K "head_of" "head_of" sHeadOf f fd) (GN : Gf P w K mg base CX0 1 "number_of" pNumberOf spNumOf) (zl : mg "len" = none) {tM tN : Tok} (mM : mg "MOST_DRAWERS" = some (.int 50 tM)) (mN' : mg "MOST_NUMBER" = some (.int mostN tN)) : FnOk P w K mg base CX0 2 f fd pHeadOf spHeadOf := by
  obtain ⟨fN, fdN, gN, bN, mN, kN⟩ := GN.ex
  refine F.ok cHeadOf (fun vs H Q E h => ?_) (fun cdv A outer s H vs Q E hr h => ?_)
  · obtain ⟨z, rfl, _⟩ := h
    rfl
  · obtain ⟨z, rfl, hz, q1, q2⟩ := h
    refine ⟨_, pss_cons (ps_set (i := 1) cHeadOf.nd rfl (Or.inl rfl) (pe_split (pv 0) pe_str))
      (pss_cons (ps_if (PW.pt (pw_or (pt_cmpR op_ne (pe_callB call_len_seq (by rfl) zl PySem.boot_len (pa_cons (pv 1) pa_nil)) pe_int (nomark _)) (pw_or1 (pt_cmpR op_ne (pe_ix ix_list (pv 1) pe_int (fun _ _ => rfl)) pe_str (nomark _))))) (pss_one (ps_ret pe_non)) pss_nil)
      (pss_cons (ps_set (i := 2) cHeadOf.nd rfl (Or.inl rfl) (pe_lst (pa_cons (pe_call gN hr rfl mN kN bN .nil pass0 (pa_cons (pe_ix ix_list (pv 1) pe_int (fun _ _ => rfl)) (pa_cons pe_int (pa_cons (pe_gint mM (by rfl)) pa_nil))))
          (pa_cons (pe_call gN hr rfl mN kN bN .nil pass0 (pa_cons (pe_ix ix_list (pv 1) pe_int (fun _ _ => rfl)) (pa_cons pe_int (pa_cons (pe_gint mN' (by rfl)) pa_nil)))) pa_nil))))
      (pss_cons (ps_expr (pe_bm PySem.F.plainAttrs_list PySem.F.slot_list_append PySem.F.type_list_append mt_append (pv 2) (pa_cons (pe_call gN hr rfl mN kN bN .nil pass0 (pa_cons (pe_ix ix_list (pv 1) pe_int (fun _ _ => rfl)) (pa_cons pe_int (pa_cons (pe_gint mN' (by rfl)) pa_nil)))) pa_nil)))
      (pss_cons (ps_if (pt_cmpR op_in_seq pe_non (pv 2) (by rfl)) (pss_one (ps_ret pe_non)) pss_nil)
      (pss_one (ps_ret (pv 2))))))), ?_⟩
    have two : 2 ≤ sizeLine := by rw [sizeLine_eq]; decide
    refine sq_any (fun σ' H' => ∃ lw : Addr, σ' = [some (.str z), some (.ref lw), none] ∧ Ex H H' ∧ H' lw = some (.lst ((Txt.split z " ").map V.str))) (fun D' hD => ⟨_, rfl, ⟨_, rfl⟩, z, " ", rfl, rfl, (by decide +kernel), hz, fun lw hlw => hD _ _ ⟨lw, rfl, Evl.Ex.new hlw, upd_same⟩⟩) ?_
    rintro σ' H1 ⟨lw, rfl, ex1, ew⟩
    by_cases h4 : (Txt.split z " ").length = 4
    · obtain ⟨a, b, c, d, hws⟩ := four_of h4
      have hle : ∀ p ∈ [a, b, c, d], p.length ≤ sizeLine := fun p hp => by
        have := split_le (x := z) (y := " ") (p := p) (by rw [hws]; exact hp)
        omega
      rw [hws] at ew
      by_cases hd : a = ("desk" : Str)
      · subst hd
        have hh : headOf z = match numOf b 1 50, numOf c 0 mostN, numOf d 0 mostN with
            | some r, some g, some t => some (r, g, t)
            | _, _, _ => none := by
          unfold headOf
          rw [hws]
          dsimp only
          refine (if_pos rfl).trans ?_
          cases numOf b 1 50 <;> cases numOf c 0 mostN <;> cases numOf d 0 mostN <;> rfl
        refine sq_if (fun H' => H1 = H') (fun Q' hQ => ?_) ?_
        · refine ⟨_, rfl, lw, _, rfl, .inl (SqL.of ew), rfl, _, rfl, iteF ?_⟩
          exact ⟨_, rfl, lw, _, 0, _, rfl, rfl, SqL.of ew, atI_nat (j := 0) rfl, rfl, _, rfl, hQ _ rfl⟩
        rintro _ rfl
        refine sq_any (fun σ' H' => ∃ l : Addr, σ' = [some (.str z), some (.ref lw), some (.ref l)] ∧ H1 l = none ∧ H' = upd H1 l (.lst [ovV (numOf b 1 50), ovV (numOf c 0 mostN)])) (fun D' hD => ?_) ?_
        · refine ⟨_, rfl, lw, _, 1, _, rfl, rfl, SqL.of ew, atI_nat (j := 1) rfl, b, 1, 50, rfl, hle b (by simp), ?_⟩
          exact ⟨_, rfl, lw, _, 2, _, rfl, rfl, SqL.of ew, atI_nat (j := 2) rfl, c, 0, mostN, rfl, hle c (by simp), two, fun l hl => hD _ _ ⟨l, rfl, hl, rfl⟩⟩
        rintro σ' H2 ⟨l, rfl, hl, rfl⟩
        have ew2 := Evl.Ex.new (o := .lst [ovV (numOf b 1 50), ovV (numOf c 0 mostN)]) hl _ _ ew
        refine sq_any (fun σ' H' => σ' = [some (.str z), some (.ref lw), some (.ref l)] ∧ Ex H1 H' ∧ H' l = some (.lst [ovV (numOf b 1 50), ovV (numOf c 0 mostN), ovV (numOf d 0 mostN)])) (fun D' hD => ?_) ?_
        · refine ⟨_, rfl, .inl ⟨rfl, _, SqL.of upd_same⟩, _, rfl, lw, _, 3, _, rfl, rfl, SqL.of ew2, atI_nat (j := 3) rfl, d, 0, mostN, rfl, hle d (by simp), l, _, _, rfl, rfl, upd_same, small (by show 2 ≤ 100000; decide), hD _ _ ⟨rfl, fun x o e => ?_, upd_same⟩⟩
          rw [upd_ne (ne_of_none e hl), upd_ne (ne_of_none e hl)]
          exact e
        rintro σ' H3 ⟨rfl, ex3, el⟩
        refine sq_ifB (decide (numOf b 1 50 = none) || decide (numOf c 0 mostN = none) || decide (numOf d 0 mostN = none)) (fun Q' hQ => ?_) (fun ht => ?_) (fun hf => ?_)
        · refine ⟨_, rfl, l, _, rfl, .inl (SqL.of el), rfl, ?_, _, rfl, ?_⟩
          · simp only [List.all_cons, List.all_nil, ov_flat, Bool.and_self]
          · rw [if_neg Bool.false_ne_true, ov_in]
            exact hQ
        · refine q1 ?_ H3 (ex1.trans ex3)
          rw [hh]
          cases hb : numOf b 1 50 <;> cases hc : numOf c 0 mostN <;> cases hdd : numOf d 0 mostN <;> first | rfl | (rw [hb, hc, hdd] at ht; cases ht)
        · cases hb : numOf b 1 50 with
          | none => rw [hb] at hf; cases hf
          | some r =>
            cases hc : numOf c 0 mostN with
            | none => rw [hb, hc] at hf; cases hf
            | some g =>
              cases hdd : numOf d 0 mostN with
              | none => rw [hb, hc, hdd] at hf; cases hf
              | some t =>
                rw [hb, hc, hdd] at hh el
                exact ⟨_, rfl, q2 r g t hh H3 l (ex1.trans ex3) (none_ex ex1 hl) el⟩
      · refine ⟨_, rfl, lw, _, rfl, .inl (SqL.of ew), rfl, _, rfl, iteF ?_⟩
        refine ⟨_, rfl, lw, _, 0, _, rfl, rfl, SqL.of ew, atI_nat (j := 0) rfl, rfl, _, rfl, ?_⟩
        rw [decide_eq_false (show ¬ V.str a = V.str "desk" from fun e => hd (V.str.inj e))]
        refine iteT (q1 ?_ H1 ex1)
        unfold headOf
        rw [hws]
        dsimp only
        rw [if_neg hd]
    · refine ⟨_, rfl, lw, _, rfl, .inl (SqL.of ew), rfl, _, rfl, ?_⟩
      rw [List.length_map, decide_eq_false (show ¬ V.int ((Txt.split z " ").length : Int) = V.int 4 from fun e => h4 (by have := V.int.inj e; omega))]
      exact iteT (q1 (head_not4 h4) H1 ex1)
def spPairOf : Sp := fun vs H Q _ => ∃ (z : Str), vs = [.str z] ∧ z.length + 2 ≤ sizeLine ∧ (pairOf z = none → ∀ H' : Hp, Ex H H' → Q .non H') ∧ (∀ e, pairOf z = some e → ∀ (H' : Hp) (l : Addr), Ex H H' → H l = none → H' l = some (.tup [.str e.1, .int e.2]) → Q (.ref l) H')
theorem ok_pairOf {f : Addr} {fd : FuncData} (F : Fun K "pair_of" "pair_of" sPairOf f fd) (GN : Gf P w K mg base CX0 1 "number_of" pNumberOf spNumOf) (GI : Gf P w K mg base CX0 1 "is_name" pIsName (spName K)) (zl : mg "len" = none) {tN : Tok} (mN' : mg "MOST_NUMBER" = some (.int mostN tN)) : FnOk P w K mg base CX0 2 f fd pPairOf spPairOf := by
  obtain ⟨fN, fdN, gN, bN, mN, kN⟩ := GN.ex
  obtain ⟨fI, fdI, gI, bI, mI, kI⟩ := GI.ex
  refine F.ok cPairOf (fun vs H Q E h => ?_) (fun cdv A outer s H vs Q E hr h => ?_)
  · obtain ⟨z, rfl, _⟩ := h
    rfl
  · obtain ⟨z, rfl, hz, q1, q2⟩ := h
    refine ⟨_, pss_cons (ps_set (i := 1) cPairOf.nd rfl (Or.inl rfl) (pe_split (pv 0) pe_str))
      (pss_cons (ps_if (PW.pt (pw_or (pt_cmpR op_ne (pe_callB call_len_seq (by rfl) zl PySem.boot_len (pa_cons (pv 1) pa_nil)) pe_int (nomark _)) (pw_or1 (pt_not (pt_val (pe_call gI hr rfl mI kI bI .nil pass0 (pa_cons (pe_ix ix_list (pv 1) pe_int (fun _ _ => rfl)) pa_nil))))))) (pss_one (ps_ret pe_non)) pss_nil)
      (pss_cons (ps_set (i := 2) cPairOf.nd rfl (Or.inl rfl) (pe_call gN hr rfl mN kN bN .nil pass0 (pa_cons (pe_ix ix_list (pv 1) pe_int (fun _ _ => rfl)) (pa_cons pe_int (pa_cons (pe_gint mN' (by rfl)) pa_nil)))))
      (pss_cons (ps_if (pt_cmp (pc_isN (pv 2))) (pss_one (ps_ret pe_non)) pss_nil)
      (pss_one (ps_ret (pe_tup (pa_cons (pe_ix ix_list (pv 1) pe_int (fun _ _ => rfl)) (pa_cons (pv 2) pa_nil)))))))), ?_⟩
    have two : 2 ≤ sizeLine := by rw [sizeLine_eq]; decide
    refine sq_any (fun σ' H' => ∃ lw : Addr, σ' = [some (.str z), some (.ref lw), none] ∧ Ex H H' ∧ H' lw = some (.lst ((Txt.split z " ").map V.str))) (fun D' hD => ⟨_, rfl, ⟨_, rfl⟩, z, " ", rfl, rfl, (by decide +kernel), hz, fun lw hlw => hD _ _ ⟨lw, rfl, Evl.Ex.new hlw, upd_same⟩⟩) ?_
    rintro σ' H1 ⟨lw, rfl, ex1, ew⟩
    by_cases h2 : (Txt.split z " ").length = 2
    · obtain ⟨a, b, hws⟩ := two_of h2
      have hle : ∀ p ∈ [a, b], p.length ≤ sizeLine := fun p hp => by
        have := split_le (x := z) (y := " ") (p := p) (by rw [hws]; exact hp)
        omega
      rw [hws] at ew
      have hh : pairOf z = if isName a = true then (numOf b 1 mostN).map fun n => (a, n) else none := by
        unfold pairOf
        rw [hws]
      refine sq_ifB (!isName a) (fun Q' hQ => ?_) (fun ht => ?_) (fun hf => ?_)
      · refine ⟨_, rfl, lw, _, rfl, .inl (SqL.of ew), rfl, _, rfl, iteF ?_⟩
        exact ⟨_, rfl, lw, _, 0, _, rfl, rfl, SqL.of ew, atI_nat (j := 0) rfl, .str a, rfl, thing_str a, fun y e => by cases e; exact hle a (by simp), _, rfl, hQ⟩
      · refine q1 ?_ H1 ex1
        rw [hh, if_neg]
        intro e
        rw [e] at ht
        cases ht
      · have hn : isName a = true := by
          cases e : isName a with
          | true => rfl
          | false => rw [e] at hf; cases hf
        rw [if_pos hn] at hh
        refine sq_any (fun σ' H' => σ' = [some (.str z), some (.ref lw), some (ovV (numOf b 1 mostN))] ∧ H1 = H') (fun D' hD => ⟨_, rfl, lw, _, 1, _, rfl, rfl, SqL.of ew, atI_nat (j := 1) rfl, b, 1, mostN, rfl, hle b (by simp), hD _ _ ⟨rfl, rfl⟩⟩) ?_
        rintro σ' _ ⟨rfl, rfl⟩
        cases hb : numOf b 1 mostN with
        | none =>
          rw [hb] at hh
          exact ⟨_, rfl, _, rfl, iteT (q1 hh H1 ex1)⟩
        | some n =>
          rw [hb] at hh
          refine ⟨_, rfl, _, rfl, iteF ?_⟩
          exact ⟨_, rfl, lw, _, 0, _, rfl, rfl, SqL.of ew, atI_nat (j := 0) rfl, _, rfl, two, fun l hl => q2 (a, n) hh _ l (ex1.trans (Evl.Ex.new hl)) (none_ex ex1 hl) upd_same⟩
    · refine ⟨_, rfl, lw, _, rfl, .inl (SqL.of ew), rfl, _, rfl, ?_⟩
      rw [List.length_map, decide_eq_false (show ¬ V.int ((Txt.split z " ").length : Int) = V.int 2 from fun e => h2 (by have := V.int.inj e; omega))]
      exact iteT (q1 (pair_not2 h2) H1 ex1)
end
/-! ### NoText made -/
section
variable {P : Program} {w : World} {K : PySem.W.Frag} {mg : Str → Option Value} {base : Heap} {C CN CW CD CT CE : Addr}
def spNT (K : PySem.W.Frag) (CT : Addr) : Sp := fun vs H Q _ => ∃ (a : Addr) (k : Int), vs = [.ref a, .int k] ∧ OexC K CT ∧ PySem.W.findIn K (.ref CT) "row" = some none ∧ H a = some (exo a CT none) ∧
  ∀ dx : Addr, H dx = none → dx ≠ a → Q .non (upd (upd H dx (exd dx [("row", .int k)])) a (exo a CT (some dx)))
/-- what the top says of NoText -/
structure NtC (K : PySem.W.Frag) (mg : Str → Option Value) (CT fI : Addr) : Prop where
  ox : OexC K CT
  row : PySem.W.findIn K (.ref CT) "row" = some none
  mgT : mg "NoText" = some (.ref CT)
  ini : PySem.W.findIn K (.ref CT) "__init__" = some (some (.ref fI))
  fn : PySem.W.typeIn K (.ref fI) = some (.type "function")
theorem ok_noText {f : Addr} {fd : FuncData} (F : Fun K "__init__" "NoText.__init__" sNoTextInit f fd) (gE : mg "DrawerError" = some (.ref CE)) (ga : PySem.W.specialIn K (.ref CE) "__getattribute__" = some (some (.builtin "type.__getattribute__")))
    (rd : PySem.W.readsIn K CE (.type "type") = true) (vV : PySem.W.findCls K (.ref CE) (.type "type") "__init__" = some (.val (.builtin "ValueError.__init__"))) : FnOk P w K mg base CX0 1 f fd pNoTextInit (spNT K CT) := by
  refine F.ok cNoTextInit (fun vs H Q E h => ?_) (fun cdv A outer s H vs Q E hr h => ?_)
  · obtain ⟨a, k, rfl, _⟩ := h
    rfl
  · obtain ⟨a, k, rfl, T, hno, ea, q⟩ := h
    refine ⟨_, pss_cons (ps_expr (pe_deinit rfl gE ga rd vV (pa_cons (pv 0) (pa_cons pe_str pa_nil)))) (pss_one (ps_ost (pv 0) (pv 1))), ?_⟩
    refine ⟨_, rfl, a, CT, _, rfl, by decide, T, ea, ?_⟩
    exact ⟨_, rfl, _, rfl, a, CT, rfl, T, hno, .inl ⟨ea, fun dx n ne => q dx n ne⟩⟩
/-- raise NoText(k) -/
theorem rd_noText {ta : TA} {σ : L2.St} {H : Hp} {k : Int} {Q : XK} (T : OexC K CT) (hno : PySem.W.findIn K (.ref CT) "row" = some none) (ht : ∀ Q' : List V → Hp → Prop, Q' [.int k] H → ta σ H Q')
    (q : ∀ (H' : Hp) (d : Addr), Ex H H' → H d = none → H' d = some (.xd [("row", .int k)]) → Q (.ref CT) (some d) H') : tMkO CT (spNT K CT) [] ta σ H Q := by
  refine ht _ ⟨(show 1 ≤ 1000 by decide), fun a na => ⟨a, k, rfl, T, hno, upd_same, fun dx nd ne => ?_⟩⟩
  have nd' : H dx = none := by rw [upd_ne ne] at nd; exact nd
  refine ⟨rfl, dx, _, upd_same, by rw [upd_ne ne]; exact upd_same, nd', q _ _ (fun b o e => ?_) nd' upd_same⟩
  have ba := ne_of_none e na
  have bd := ne_of_none e nd'
  rw [upd_ne bd, del_ne ba, upd_ne ba, upd_ne bd, upd_ne ba]
  exact e
end
/-! ### texts: any one read -/
theorem getLastD_snoc (l : List Str) (x d : Str) : (l ++ [x]).getLastD d = x := by
  rw [List.getLastD_eq_getLast?, List.getLast?_concat]
  rfl
theorem getLastD_cons {x d d' : Str} {l : List Str} (h : l ≠ []) : (x :: l).getLastD d = l.getLastD d' := by
  obtain ⟨l, y, rfl⟩ := List.eq_nil_or_concat l |>.resolve_left h
  rw [List.concat_eq_append, ← List.cons_append, getLastD_snoc, getLastD_snoc]
theorem sq_ifBX {c : TT} {t rest : TS} {D : Ends} {σ : L2.St} {H : Hp} (b : Bool) (P : Hp → Prop) (h : ∀ Q : Bool → Hp → Prop, (∀ H', P H' → Q b H') → c σ H Q) (kt : ∀ H', P H' → b = true → t { D with nx := rest D } σ H') (kf : ∀ H', P H' → b = false → rest D σ H') : tSeq (tIfS c t tNext) rest D σ H := by
  refine h _ fun H' p => ?_
  cases b with
  | true => exact (if_pos rfl).mpr (kt H' p rfl)
  | false => exact (if_neg Bool.false_ne_true).mpr (kf H' p rfl)
section
variable {P : Program} {w : World} {K : PySem.W.Frag} {mg : Str → Option Value} {base : Heap} {C CN CW CD CT CE : Addr}
def spRead (C CT : Addr) : Sp := fun vs H Q E => ∃ (z : Str), vs = [.str z] ∧ z.length ≤ 100000 ∧
  (∀ r c g t, readRows (Txt.split z "\n") = .ok r c g t → ∀ (H' : Hp) (p d : Addr), Ex H H' → H p = none → H d = none → DeskAt C H' p d r c g t → Q (.ref p) H') ∧
  (∀ k : Nat, readRows (Txt.split z "\n") = .err k → ∀ (H' : Hp) (d : Addr), Ex H H' → H d = none → H' d = some (.xd [("row", .int k)]) → E (.ref CT) (some d) H')
theorem ok_read {f fI : Addr} {fd fdI : FuncData} (F : Fun K "read" "read" sRead f fd) (T : DkT K mg C CN CW CD) (GH : Gf P w K mg base CX0 2 "head_of" pHeadOf spHeadOf) (GP : Gf P w K mg base CX0 2 "pair_of" pPairOf spPairOf) (GO : Gf P w K mg base CX0 5 "desk_of" pDeskOf (spDeskOf C))
    (NT : NtC K mg CT fI) (GI : FnOk P w K mg base CX0 1 fI fdI pNoTextInit (spNT K CT)) (bI : Binds K fdI pNoTextInit []) (zr : mg "range" = none) (zs : mg "sum" = none) (zi : mg "int" = none) : FnOk P w K mg base (L2.CX P w) 6 f fd pRead (spRead C CT) := by
  obtain ⟨fH, fdH, gH, bH, mH, kH⟩ := GH.ex
  obtain ⟨fP, fdP, gP, bP, mP, kP⟩ := GP.ex
  obtain ⟨fO, fdO, gO, bO, mO, kO⟩ := GO.ex
  refine F.okX cRead (fun vs H Q E h => ?_) (fun cdv A outer s H vs Q E hr h => ?_)
  · obtain ⟨z, rfl, _⟩ := h
    rfl
  · obtain ⟨z, rfl, hz, qo, qe⟩ := h
    have hu := hu_of hr
    refine ⟨_, pss_cons (ps_set (i := 1) cRead.nd rfl (Or.inl rfl) (pe_split (pv 0) pe_str))
      (pss_cons (ps_if (pt_cmpR op_eq (pv 0) pe_str (nomark _)) (pss_one (ps_raise rfl (takes_of rfl rfl rfl rfl) (pmk_oex NT.ox NT.ini NT.fn GI (hr.mono (by decide)) bI .nil pass0 rfl NT.mgT (pa_cons pe_int pa_nil)))) pss_nil)
      (pss_cons (ps_set (i := 2) cRead.nd rfl (Or.inl rfl) (pe_call gH (hr.mono (by decide)) rfl mH kH bH .nil pass0 (pa_cons (pe_ix ix_list (pv 1) pe_int (fun _ _ => rfl)) pa_nil)))
      (pss_cons (ps_if (pt_cmp (pc_isN (pv 2))) (pss_one (ps_raise rfl (takes_of rfl rfl rfl rfl) (pmk_oex NT.ox NT.ini NT.fn GI (hr.mono (by decide)) bI .nil pass0 rfl NT.mgT (pa_cons pe_int pa_nil)))) pss_nil)
      (pss_cons (ps_set (i := 3) cRead.nd rfl (Or.inl rfl) pe_dnewK)
      (pss_cons (ps_set (i := 4) cRead.nd rfl (Or.inl rfl) pe_str)
      (pss_cons (ps_for (passes_of rfl) rfl (pi_range2 rfl zr (pa_cons pe_int (pa_cons (pe_callB call_len_seq (by rfl) T.len PySem.boot_len (pa_cons (pv 1) pa_nil)) pa_nil))) (pg_name (i := 5) cRead.nd rfl (Or.inl rfl))
        (pss_cons (ps_if (PW.pt (pw_and (pt_cmpR op_eq (pv 5) (pe_op op_sub (pe_callB call_len_seq (by rfl) T.len PySem.boot_len (pa_cons (pv 1) pa_nil)) pe_int) (nomark _)) (pw_and1 (pt_cmpR op_eq (pe_ix ix_list (pv 1) (pv 5) (fun _ _ => rfl)) pe_str (nomark _))))) (pss_one ps_continue) pss_nil)
        (pss_cons (ps_set (i := 6) cRead.nd rfl (Or.inl rfl) (pe_call gP (hr.mono (by decide)) rfl mP kP bP .nil pass0 (pa_cons (pe_ix ix_list (pv 1) (pv 5) (fun _ _ => rfl)) pa_nil)))
        (pss_cons (ps_if (PW.pt (pw_or (pt_cmp (pc_isN (pv 6))) (pw_or (pt_cmpR op_le_str (pe_ix ix_tup (pv 6) pe_int (fun _ _ => rfl)) (pv 4) (nomark _)) (pw_or1 (pt_cmpR op_eq (pe_callB call_lenD (by rfl) T.len PySem.boot_len (pa_cons (pv 3) pa_nil)) (pe_ix ix_list (pv 2) pe_int (fun _ _ => rfl)) (nomark _))))))
          (pss_one (ps_raise rfl (takes_of rfl rfl rfl rfl) (pmk_oex NT.ox NT.ini NT.fn GI (hr.mono (by decide)) bI .nil pass0 rfl NT.mgT (pa_cons (pv 5) pa_nil)))) pss_nil)
        (pss_cons (ps_dput hu (pv 3) (pe_ix ix_tup (pv 6) pe_int (fun _ _ => rfl)) (pe_ix ix_tup (pv 6) pe_int (fun _ _ => rfl)) rfl)
        (pss_one (ps_set (i := 4) cRead.nd rfl (Or.inl rfl) (pe_ix ix_tup (pv 6) pe_int (fun _ _ => rfl)))))))))
      (pss_cons (ps_if (PW.pt (pw_or (pt_cmpR op_ne (pe_ix ix_list (pv 1) (pe_un un_neg pe_int) (fun _ _ => rfl)) pe_str (nomark _))
          (pw_or1 (pt_cmpR op_gt (pe_op op_add (pe_callB (cr_sumV rfl) (by rfl) zs boot_sum (pa_cons (pe_bm0 PySem.F.plainAttrs_dict PySem.F.slot_dict_values PySem.F.type_dict_values mt_vals (pv 3)) pa_nil)) (pe_op op_mul (pe_op op_add (pe_ix ix_list (pv 2) pe_int (fun _ _ => rfl)) pe_int) (pe_ix ix_list (pv 2) pe_int (fun _ _ => rfl))))
            (pe_ix ix_list (pv 2) pe_int (fun _ _ => rfl)) (nomark _)))))
          (pss_one (ps_raise rfl (takes_of rfl rfl rfl rfl) (pmk_oex NT.ox NT.ini NT.fn GI (hr.mono (by decide)) bI .nil pass0 rfl NT.mgT (pa_cons (pe_op op_sub (pe_callB call_len_seq (by rfl) T.len PySem.boot_len (pa_cons (pv 1) pa_nil))
            (pe_callTy call_int1 (by rfl) zi (by decide +kernel) (pa_cons (pe_cmpR op_eq (pe_ix ix_list (pv 1) (pe_un un_neg pe_int) (fun _ _ => rfl)) pe_str (nomark _)) pa_nil))) pa_nil)))) pss_nil)
      (pss_one (ps_ret (pe_call gO (hr.mono (by decide)) rfl mO kO bO .nil pass0 (pa_cons (pe_ix ix_list (pv 2) pe_int (fun _ _ => rfl)) (pa_cons (pv 3) (pa_cons (pe_ix ix_list (pv 2) pe_int (fun _ _ => rfl)) (pa_cons (pe_ix ix_list (pv 2) pe_int (fun _ _ => rfl)) pa_nil)))))))))))))), ?_⟩
    have szl : ∀ n : Nat, n ≤ 200000 → n ≤ sizeLine := fun n h => by rw [sizeLine_eq]; omega
    have raised : ∀ {ta : TA} {σ : L2.St} {H1 : Hp} {k : Nat}, Ex H H1 → readRows (Txt.split z "\n") = .err k → (∀ Q' : List V → Hp → Prop, Q' [.int (k : Int)] H1 → ta σ H1 Q') → tMkO CT (spNT K CT) [] ta σ H1 E := fun ex hk ht =>
      rd_noText NT.ox NT.row ht fun H' d ex' nd ed => qe _ hk H' d (ex.trans ex') (none_ex ex nd) ed
    have zl := split_size z "\n"
    obtain ⟨h0, rest, hrows⟩ : ∃ h0 rest, Txt.split z "\n" = h0 :: rest := by
      cases e : Txt.split z "\n" with
      | nil => exact absurd e (rows_ne z "\n")
      | cons a l => exact ⟨a, l, rfl⟩
    have rlen : ∀ p ∈ h0 :: rest, p.length ≤ 100000 := fun p hp => by
      have := split_le (x := z) (y := "\n") (p := p) (by rw [hrows]; exact hp)
      omega
    refine sq_any (fun σ' H' => ∃ lr : Addr, σ' = [some (.str z), some (.ref lr), none, none, none, none, none] ∧ Ex H H' ∧ H' lr = some (.lst ((h0 :: rest).map V.str))) (fun D' hD => ⟨_, rfl, ⟨_, rfl⟩, z, "\n", rfl, rfl, (by decide +kernel), szl _ (by omega), fun l hl => hD _ _ ⟨l, rfl, Evl.Ex.new hl, by rw [upd_same, hrows]⟩⟩) ?_
    rintro σ' H1 ⟨lr, rfl, ex1, er1⟩
    rw [hrows] at raised zl qo
    refine sq_ifB (decide (V.str z = V.str "")) (fun Q' hQ => ⟨_, rfl, rfl, _, rfl, by cases hb : decide (V.str z = V.str "") <;> rw [hb] at hQ <;> exact hQ⟩) (fun hb => ?_) (fun _ => ?_)
    · refine raised ex1 ?_ fun Q' hQ => hQ
      have ez : z = "" := V.str.inj (of_decide_eq_true hb)
      rw [ez, split_none] at hrows
      rw [← hrows]
      exact read_head head_none
    cases hh : headOf h0 with
    | none =>
      refine sq_any (fun σ' H' => σ' = [some (.str z), some (.ref lr), some .non, none, none, none, none] ∧ Ex H1 H') (fun D' hD => ?_) ?_
      · refine ⟨_, rfl, lr, _, 0, _, rfl, rfl, SqL.of er1, atI_nat (j := 0) rfl, h0, rfl, szl _ (by have := rlen h0 (List.mem_cons_self ..); omega), fun _ H' ex => hD _ _ ⟨rfl, ex⟩, fun r g t e => ?_⟩
        rw [hh] at e
        cases e
      rintro σ' H2 ⟨rfl, ex2⟩
      exact ⟨_, rfl, _, rfl, iteT (raised (ex1.trans ex2) (read_head hh) fun Q' hQ => hQ)⟩
    | some hd =>
    obtain ⟨r, g, t⟩ := hd
    have hB := head_bnd hh
    refine sq_any (fun σ' H' => ∃ hl : Addr, σ' = [some (.str z), some (.ref lr), some (.ref hl), none, none, none, none] ∧ Ex H1 H' ∧ H' hl = some (.lst [.int r, .int g, .int t])) (fun D' hD => ?_) ?_
    · refine ⟨_, rfl, lr, _, 0, _, rfl, rfl, SqL.of er1, atI_nat (j := 0) rfl, h0, rfl, szl _ (by have := rlen h0 (List.mem_cons_self ..); omega), fun e => ?_, fun r' g' t' e H' l ex hl el => ?_⟩
      · rw [hh] at e
        cases e
      · rw [hh] at e
        cases e
        exact hD _ _ ⟨l, rfl, ex, el⟩
    rintro σ' H2 ⟨hl, rfl, ex2, ehl⟩
    have er2 := ex2 _ _ er1
    refine sq_if (fun H' => H2 = H') (fun Q' hQ => ⟨_, rfl, _, rfl, hQ _ rfl⟩) ?_
    rintro _ rfl
    refine sq_any (fun σ' H' => ∃ d : Addr, σ' = [some (.str z), some (.ref lr), some (.ref hl), some (.ref d), none, none, none] ∧ H2 d = none ∧ H' = upd H2 d (.dK [])) (fun D' hD => fun d hd => hD _ _ ⟨d, rfl, hd, rfl⟩) ?_
    rintro σ' _ ⟨d, rfl, nd2, rfl⟩
    refine sq_any (fun σ' H' => σ' = [some (.str z), some (.ref lr), some (.ref hl), some (.ref d), some (.str ""), none, none] ∧ H' = upd H2 d (.dK [])) (fun D' hD => hD _ _ ⟨rfl, rfl⟩) ?_
    rintro σ' _ ⟨rfl, rfl⟩
    have ex3 := Evl.Ex.new (o := .dK []) nd2
    have ed : upd H2 d (.dK (kvc [])) d = some (.dK (kvc [])) := upd_same
    have exn : Ex H (upd H2 d (.dK [])) := (ex1.trans ex2).trans ex3
    have rd := read_some (rest := rest) hh
    have rl1 : (h0 :: rest).length = rest.length + 1 := List.length_cons ..
    refine sq_any (fun σ' H' => ∃ (c : CM) (last : Str) (v5 v6 : Option V), σ' = [some (.str z), some (.ref lr), some (.ref hl), some (.ref d), some (.str last), v5, v6] ∧ Ex H2 H' ∧ H' d = some (.dK (kvc c)) ∧ scanR r rest 1 [] "" = .inr c) (fun D' hD => ?_) ?_
    · refine ⟨_, rfl, lr, _, rfl, .inl (SqL.of (ex3 _ _ er2)), 1, _, rfl, ⟨by decide, by decide, ?_, ?_⟩, ?_⟩
      · rw [List.length_map]
        omega
      · rw [List.length_map]
        omega
      rw [List.length_map, rl1, show (((rest.length + 1 : Nat) : Int) - 1).toNat = rest.length by omega]
      refine for_range (lo := 1) (n := rest.length) (fun i σ H' => ∃ (c : CM) (last : Str) (v5 v6 : Option V), σ = [some (.str z), some (.ref lr), some (.ref hl), some (.ref d), some (.str last), v5, v6] ∧ Ex H2 H' ∧ H' d = some (.dK (kvc c)) ∧ Scan r c last ∧ scanR r rest 1 [] "" = scanR r (rest.drop i) (i + 1) c last)
        ⟨[], "", _, _, rfl, ex3, ed, scan_nil hB.1, by rw [List.drop_zero]⟩ ?_ ?_
      · rintro i σ H4 hi ⟨c, last, v5, v6, rfl, ex4, ed4, S, hsc⟩
        have er4 := ex4 _ _ er2
        have eh4 := ex4 _ _ ehl
        have exA := (ex1.trans ex2).trans ex4
        have eat : V.int (1 + (i : Int)) = V.int ((i + 1 : Nat) : Int) := congrArg V.int (by omega)
        rw [List.drop_eq_getElem_cons hi] at hsc
        have hx : ((h0 :: rest).map V.str)[i + 1]? = some (V.str rest[i]) := by
          rw [List.getElem?_map, List.getElem?_cons_succ, List.getElem?_eq_getElem hi]
          rfl
        have xl := rlen rest[i] (List.mem_cons_of_mem _ (List.getElem_mem hi))
        generalize rest[i] = x at hsc hx xl
        have hend : (rest.drop (i + 1) = [] ∧ x = "") ↔ (i + 1 = rest.length ∧ x = "") := by
          rw [List.drop_eq_nil_iff]
          constructor <;> intro h <;> exact ⟨by have := h.1; omega, h.2⟩
        refine sq_ifB (decide (i + 1 = rest.length ∧ x = "")) (fun Q' hQ => ?_) (fun hb => ?_) (fun hb => ?_)
        · refine ⟨_, rfl, _, rfl, lr, _, rfl, .inl (SqL.of er4), _, _, rfl, rfl, rfl, _, rfl, ?_⟩
          rw [List.length_map, rl1]
          by_cases h1 : i + 1 = rest.length
          · rw [decide_eq_true (show V.int (1 + (i : Int)) = V.int (((rest.length + 1 : Nat) : Int) - 1) from congrArg V.int (by omega))]
            refine ⟨_, rfl, _, rfl, lr, _, _, _, rfl, eat, SqL.of er4, atI_nat hx, rfl, _, rfl, ?_⟩
            by_cases h2 : x = ""
            · rw [decide_eq_true ⟨h1, h2⟩] at hQ
              rw [decide_eq_true (show V.str x = V.str "" from congrArg V.str h2)]
              exact hQ
            · rw [decide_eq_false (fun h => h2 h.2)] at hQ
              rw [decide_eq_false (fun h => h2 (V.str.inj h))]
              exact hQ
          · rw [decide_eq_false (fun h => h1 h.1)] at hQ
            rw [decide_eq_false (show ¬ V.int (1 + (i : Int)) = V.int (((rest.length + 1 : Nat) : Int) - 1) from fun e => by have := V.int.inj e; omega)]
            exact hQ
        · have h12 := of_decide_eq_true hb
          refine ⟨c, last, _, _, rfl, ex4, ed4, S, ?_⟩
          rw [hsc, scanR, if_pos (hend.mpr h12), (hend.mpr h12).1]
          rfl
        have hne := of_decide_eq_false hb
        rw [scanR, if_neg fun h => hne (hend.mp h)] at hsc
        cases hp : pairOf x with
        | none =>
          rw [hp] at hsc
          dsimp only at hsc
          refine sq_any (fun σ' H' => σ' = [some (.str z), some (.ref lr), some (.ref hl), some (.ref d), some (.str last), some (.int (1 + (i : Int))), some .non] ∧ Ex H4 H') (fun D2 hD2 => ?_) ?_
          · refine ⟨_, rfl, _, rfl, lr, _, _, _, rfl, eat, SqL.of er4, atI_nat hx, x, rfl, szl _ (by omega), fun _ H' ex => hD2 _ _ ⟨rfl, ex⟩, fun e h => ?_⟩
            rw [hp] at h
            cases h
          rintro σ' H5 ⟨rfl, ex5⟩
          refine sq_ifB true (fun Q' hQ => ⟨_, rfl, _, rfl, iteT hQ⟩) (fun _ => ?_) (fun h => nomatch h)
          refine raised (exA.trans ex5) (k := i + 1) ?_ fun Q' hQ => ⟨_, rfl, ?_⟩
          · rw [rd, hsc]
            rfl
          · rw [eat]
            exact hQ
        | some e =>
          rw [hp] at hsc
          dsimp only at hsc
          refine sq_any (fun σ' H' => ∃ tp : Addr, σ' = [some (.str z), some (.ref lr), some (.ref hl), some (.ref d), some (.str last), some (.int (1 + (i : Int))), some (.ref tp)] ∧ Ex H4 H' ∧ H' tp = some (.tup [.str e.1, .int e.2])) (fun D2 hD2 => ?_) ?_
          · refine ⟨_, rfl, _, rfl, lr, _, _, _, rfl, eat, SqL.of er4, atI_nat hx, x, rfl, szl _ (by omega), fun h => ?_, fun e' h H' l ex hl el => ?_⟩
            · rw [hp] at h
              cases h
            · rw [hp] at h
              cases h
              exact hD2 _ _ ⟨l, rfl, ex, el⟩
          rintro σ' H5 ⟨tp, rfl, ex5, etp⟩
          have ed5 := ex5 _ _ ed4
          have eh5 := ex5 _ _ eh4
          refine sq_ifB (!(slt last e.1) || decide ((c.length : Int) = r)) (fun Q' hQ => ?_) (fun hb2 => ?_) (fun hb2 => ?_)
          · refine ⟨_, rfl, _, rfl, iteF ?_⟩
            refine ⟨_, rfl, tp, _, 0, _, rfl, rfl, SqT.of etp, atI_nat (j := 0) rfl, _, rfl, _, _, rfl, rfl, _, rfl, ?_⟩
            rw [slt_le]
            cases hs : slt last e.1 with
            | false =>
              rw [hs] at hQ
              exact iteT hQ
            | true =>
              rw [hs] at hQ
              refine iteF ?_
              refine ⟨_, rfl, d, _, rfl, ed5, _, rfl, hl, _, 0, _, rfl, rfl, SqL.of eh5, atI_nat (j := 0) rfl, rfl, _, rfl, ?_⟩
              rw [len_kvc]
              by_cases hc : (c.length : Int) = r
              · rw [decide_eq_true hc] at hQ
                rw [decide_eq_true (show V.int (c.length : Int) = V.int r from congrArg V.int hc)]
                exact hQ
              · rw [decide_eq_false hc] at hQ
                rw [decide_eq_false (fun h => hc (V.int.inj h))]
                exact hQ
          · refine raised (exA.trans ex5) (k := i + 1) ?_ fun Q' hQ => ⟨_, rfl, ?_⟩
            · rw [if_neg] at hsc
              · rw [rd, hsc]
                rfl
              · rintro ⟨h1, h2⟩
                rw [h1, decide_eq_false h2] at hb2
                cases hb2
            · rw [eat]
              exact hQ
          · have h1 : slt last e.1 = true := by
              cases hs : slt last e.1 with
              | true => rfl
              | false => rw [hs] at hb2; cases hb2
            have h2 : ¬ (c.length : Int) = r := fun hc => by
              rw [decide_eq_true hc, Bool.or_true] at hb2
              cases hb2
            rw [if_pos ⟨h1, h2⟩] at hsc
            have sl := S.ln
            refine ⟨_, rfl, tp, _, 1, _, rfl, rfl, SqT.of etp, atI_nat (j := 1) rfl, _, rfl, _, rfl, tp, _, 0, _, rfl, rfl, SqT.of etp, atI_nat (j := 0) rfl, d, _, rfl, DPut.of ed5 _ _ (small (by omega)), ?_⟩
            have dtp : d ≠ tp := fun e => by rw [← e, ed5] at etp; cases etp
            refine ⟨_, rfl, tp, _, 0, _, rfl, rfl, SqT.of (by rw [upd_ne dtp.symm]; exact etp), atI_nat (j := 0) rfl, c ++ [e], e.1, _, _, rfl, fun b o hb => ?_, ?_, S.step hp h1 h2, hsc⟩
            · rw [upd_ne (ne_of_none hb nd2)]
              exact ex5 _ _ (ex4 _ _ hb)
            · rw [upd_same, S.put h1]
      · rintro σ H4 ⟨c, last, v5, v6, rfl, ex4, ed4, _, hsc⟩
        rw [List.drop_eq_nil_of_le (Nat.le_refl _)] at hsc
        exact hD _ _ ⟨c, last, _, _, rfl, ex4, ed4, hsc⟩
    rintro σ' H4 ⟨c, last, v5, v6, rfl, ex4, ed4, hsc⟩
    obtain ⟨last', S⟩ := scan_ok (scan_nil hB.1) hsc
    have er4 := ex4 _ _ er2
    have eh4 := ex4 _ _ ehl
    have exA := (ex1.trans ex2).trans ex4
    obtain ⟨ini, L, hL⟩ : ∃ ini L, h0 :: rest = ini ++ [L] := ⟨(h0 :: rest).dropLast, (h0 :: rest).getLast (by simp), (List.dropLast_concat_getLast (by simp)).symm⟩
    have hLm : (h0 :: rest).map V.str = ini.map V.str ++ [V.str L] := by rw [hL, List.map_append]; rfl
    have hLd : (h0 :: rest).getLastD "" = L := by rw [hL, getLastD_snoc]
    rw [hsc, tailR, hLd] at rd
    have lst1 : ∀ {H5 : Hp}, H5 lr = some (.lst ((h0 :: rest).map V.str)) → ∀ {QQ : VK}, QQ (.str L) H5 → rIxL K (.ref lr) (.int (-1)) H5 QQ := fun e QQ q => ⟨lr, _, -1, _, rfl, rfl, SqL.of e, by rw [hLm]; exact atI_last _ _, q⟩
    refine sq_ifBX (!decide (L = "") || decide (t < sumC c + (r + 1) * g)) (fun H' => Ex H4 H') (fun Q' hQ => ?_) (fun H5 ex5 hb => ?_) (fun H5 ex5 hb => ?_)
    · refine ⟨_, rfl, 1, rfl, lst1 er4 ⟨rfl, _, rfl, ?_⟩⟩
      by_cases hl0 : L = ""
      · rw [decide_eq_true hl0] at hQ
        rw [decide_eq_true (show V.str L = V.str "" from congrArg V.str hl0)]
        refine iteF ?_
        refine ⟨_, rfl, (.inr (.inr (.inl ⟨rfl, .inl ⟨_, ed4⟩⟩))), d, kvc c, rfl, rfl, ed4, fun v hv => ⟨v, d, kvc c, valsC c, rfl, upd_same, (by rw [upd_ne (ne_of_none ed4 hv)]; exact ed4), snd_kvc _, ?_⟩⟩
        have exv := Evl.Ex.new (o := viewV v d) hv
        have ehv := exv _ _ eh4
        refine ⟨_, rfl, hl, _, 0, _, rfl, rfl, SqL.of ehv, atI_nat (j := 0) rfl, _, _, rfl, rfl, _, rfl, hl, _, 1, _, rfl, rfl, SqL.of ehv, atI_nat (j := 1) rfl, _, _, rfl, rfl, .inl ⟨by omega, by omega⟩, _, _, rfl, rfl, _, rfl, hl, _, 2, _, rfl, rfl, SqL.of ehv, atI_nat (j := 2) rfl, _, _, rfl, rfl, _, rfl, ?_⟩
        exact hQ _ exv
      · rw [decide_eq_false hl0] at hQ
        rw [decide_eq_false (fun h => hl0 (V.str.inj h))]
        exact iteT (hQ _ (fun _ _ e => e))
    · have er5 := ex5 _ _ er4
      refine raised (exA.trans ex5) (k := endR (h0 :: rest)) ?_ fun Q' hQ => ?_
      · rw [if_neg] at rd
        · exact rd
        · rintro ⟨h1, h2⟩
          rw [decide_eq_true h1, decide_eq_false (by omega)] at hb
          cases hb
      · refine ⟨_, rfl, lr, _, rfl, .inl (SqL.of er5), _, rfl, 1, rfl, lst1 er5 ⟨rfl, .inr ⟨_, rfl, _, _, rfl, rfl, ?_⟩⟩⟩
        have e : ((((h0 :: rest).map V.str).length : Nat) : Int) - (if decide (V.str L = V.str "") = true then 1 else 0) = (endR (h0 :: rest) : Int) := by
          unfold endR
          rw [hLd, List.length_map, rl1]
          by_cases hl0 : L = ""
          · rw [if_pos hl0, decide_eq_true (show V.str L = V.str "" from congrArg V.str hl0), if_pos rfl]
            omega
          · rw [if_neg hl0, decide_eq_false (fun h => hl0 (V.str.inj h)), if_neg Bool.false_ne_true]
            omega
        rw [← e] at hQ
        exact hQ
    have hL0 : L = "" := by
      by_cases h : L = ""
      · exact h
      · rw [decide_eq_false h] at hb
        cases hb
    have hsm : sumC c + (r + 1) * g ≤ t := by
      rw [Bool.or_eq_false_iff] at hb
      have := of_decide_eq_false hb.2
      omega
    have eh5 := ex5 _ _ eh4
    rw [if_pos ⟨hL0, hsm⟩] at rd
    have c0 : cutAt r c = 0 := cut_few (by have := S.ln; omega)
    have pc : posC c := fun e he => by have := S.lo e he; omega
    have nd := (asc_sort S.asc).2
    refine ⟨_, rfl, hl, _, 0, _, rfl, rfl, SqL.of eh5, atI_nat (j := 0) rfl, _, rfl, _, rfl, hl, _, 1, _, rfl, rfl, SqL.of eh5, atI_nat (j := 1) rfl, _, rfl, hl, _, 2, _, rfl, rfl, SqL.of eh5, atI_nat (j := 2) rfl, r, d, c, g, t, rfl, hB.1, hB.2.1, ex5 _ _ ed4, nd, by have := S.ln; omega, fun H6 p d' ex6 hp hd D => ?_⟩
    rw [c0, lowered_zero pc, Int.add_zero] at D
    have exB := exA.trans ex5
    exact qo r c g t rd H6 p d' (exB.trans ex6) (none_ex exB hp) (none_ex exB hd) D
end
theorem pe_gref {X : Cx} {x : Str} {D : Addr} {pos : Pos} (hm : X.mg x = some (.ref D)) (hg : Gl X x) (hd : (x == ("__debug__" : Str)) = false := by decide) : PE X (.Name x pos) (tC (.ref D)) := pe_glob (v := .ref D) hg hm rfl hd
/-! ### which of the six errors it is, in words -/
def rIsU (K : PySem.W.Frag) : List V → Hp → VK → Prop := fun xs H Q => rIsi K xs H Q ∨ rIsX K xs H Q
theorem call_isU {X : Cx} : CallR X (.builtin "isinstance") (rIsU X.K) := by
  intro pins s σ H xs us Q I r h
  rcases h with h | h
  · exact call_isi pins s σ H xs us Q I r h
  · exact call_isX pins s σ H xs us Q I r h
/-- what isinstance says of x and a class, here and later -/
def Says (K : PySem.W.Frag) (H : Hp) (x : V) (D : Addr) (b : Bool) : Prop := ∀ (H' : Hp) (Q : VK), Ex H H' → Q (.bl b) H' → rIsU K [x, .ref D] H' Q
theorem says_none {K : PySem.W.Frag} {H : Hp} {D : Addr} (h : PySem.W.kitOne K (.type "NoneType") (.ref D) = some false) : Says K H .non D false := fun H' Q _ q => .inl ⟨.non, .ref D, .type "NoneType", .ref D, false, rfl, .own D, .base .non, h, q⟩
theorem says_held {K : PySem.W.Frag} {H : Hp} {a C D : Addr} {b : Bool} (h : H a = some (Held (.ref C) none a)) (E : ExcC K C) (k : PySem.W.kitOne K (.ref C) (.ref D) = some b) : Says K H (.ref a) D b := fun H' Q e q => .inr ⟨a, C, .ref D, .ref D, b, rfl, e _ _ h, E, .own D, k, q⟩
theorem kit_self {K : PySem.W.Frag} {D : Addr} : PySem.W.kitOne K (.ref D) (.ref D) = some true := by
  unfold PySem.W.kitOne
  rw [if_pos (beq_self_eq_true _)]
theorem kit_no {K : PySem.W.Frag} {t : Value} {C : Addr} (hne : (t == Value.ref C) = false) (hd : PySem.W.hasDictIn K C = true) (ht : PySem.W.typeIn K (.ref C) = some (.type "type")) (hs : PySem.W.subIn K t (.ref C) = some false) : PySem.W.kitOne K t (.ref C) = some false := by
  obtain ⟨cd, hc, _⟩ := PySem.W.any_some hd
  unfold PySem.W.kitOne PySem.W.kitCls
  rw [hne, if_neg Bool.false_ne_true]
  dsimp only
  rw [hc, ht, hs]
  rfl
/-! ### the kinds of error, as isinstance tells them -/
structure Kind (K : PySem.W.Frag) (CN CW CD CQ CP CT D : Addr) (b1 b2 b3 b4 b5 b6 : Bool) : Prop where
  e : ExcC K D
  k1 : PySem.W.kitOne K (.ref D) (.ref CN) = some b1
  k2 : PySem.W.kitOne K (.ref D) (.ref CW) = some b2
  k3 : PySem.W.kitOne K (.ref D) (.ref CD) = some b3
  k4 : PySem.W.kitOne K (.ref D) (.ref CQ) = some b4
  k5 : PySem.W.kitOne K (.ref D) (.ref CP) = some b5
  k6 : PySem.W.kitOne K (.ref D) (.ref CT) = some b6
/-! ### the number that a text is refused with -/
def rIsV (K : PySem.W.Frag) : List V → Hp → VK → Prop := fun xs H Q => rIsi K xs H Q ∨ rIsXD K xs H Q
theorem call_isV {X : Cx} : CallR X (.builtin "isinstance") (rIsV X.K) := by
  intro pins s σ H xs us Q I r h
  rcases h with h | h
  · exact call_isi pins s σ H xs us Q I r h
  · exact call_isXD pins s σ H xs us Q I r h
def rIsVT (K : PySem.W.Frag) : List V → Hp → VK → Prop := fun xs H Q => rIsiT K xs H Q ∨ rIsXDT K xs H Q
theorem call_isVT {X : Cx} : CallR X (.builtin "isinstance") (rIsVT X.K) := by
  intro pins s σ H xs us Q I r h
  rcases h with h | h
  · exact call_isiT pins s σ H xs us Q I r h
  · exact call_isXDT pins s σ H xs us Q I r h
section
variable {P : Program} {w : World} {K : PySem.W.Frag} {mg : Str → Option Value} {base : Heap} {C CN CW CD CQ CP CT CE : Addr}
theorem hold_readsDL {K : PySem.W.Frag} {n i j : Nat} {CE D : Addr} {d : Option Addr} {σ : L2.St} {H : Hp} {D' : Ends} (hm : PySem.W.exmOne K (.ref D) (.ref CE) = some true) (hj : j < n) (hij : i ≠ j) (q : ∀ (σ' : L2.St) (a : Addr), σ'[j]? = some (some (.ref a)) → H a = none → σ'.length = n → D'.nx σ' (upd H a (Held (.ref D) d a))) :
    wHold K n (.ref CE) i j (fun _ _ _ _ => False) D' (.ref D) d σ H := ⟨true, hm, fun _ a na hl => q _ a (hold_slotD hl hj hij) na (by rw [List.length_set, List.length_set, List.length_set]; exact hl), fun z => nomatch z⟩
def spTold13 : Sp := fun vs H Q _ => ∃ (z : Str), vs = [.str z] ∧ z.length ≤ 100000 ∧ (∀ r c g t, readRows (Txt.split z "\n") = .ok r c g t → ∀ H' : Hp, Ex H H' → Q (.int (-1)) H') ∧ (∀ k : Nat, readRows (Txt.split z "\n") = .err k → ∀ H' : Hp, Ex H H' → Q (.int k) H')
theorem ok_told13 {f : Addr} {fd : FuncData} (F : Fun K "_law_told" "_law_told" sLTold f fd) (GR : Gf P w K mg base (L2.CX P w) 6 "read" pRead (spRead C CT)) (XF : XfC K CT) (row : PySem.W.findIn K (.ref CT) "row" = some none) (zI : mg "isinstance" = none) (zb : mg "bool" = none)
    (gN : mg "NoName" = some (.ref CN)) (gW : mg "NoWeight" = some (.ref CW)) (gD : mg "NoDesk" = some (.ref CD)) (gM : mg "NoMatch" = some (.ref CQ)) (gP : mg "NoPiece" = some (.ref CP)) (gT : mg "NoText" = some (.ref CT)) (gE : mg "DrawerError" = some (.ref CE))
    (hT : PySem.W.exmOne K (.ref CT) (.ref CE) = some true) (kT : Kind K CN CW CD CQ CP CT CT false false false false false true)
    (zN : PySem.W.kitOne K (.type "NoneType") (.ref CN) = some false) (zW : PySem.W.kitOne K (.type "NoneType") (.ref CW) = some false) (zD : PySem.W.kitOne K (.type "NoneType") (.ref CD) = some false) (zM : PySem.W.kitOne K (.type "NoneType") (.ref CQ) = some false) (zP : PySem.W.kitOne K (.type "NoneType") (.ref CP) = some false) (zT : PySem.W.kitOne K (.type "NoneType") (.ref CT) = some false) :
    FnOk P w K mg base CX0 7 f fd pLTold spTold13 := by
  obtain ⟨f1, fd1, gR, bR, mR, kR⟩ := GR.ex
  refine F.ok cLTold (fun vs H Q E h => ?_) (fun cdv A outer s H vs Q E hr h => ?_)
  · obtain ⟨z, rfl, _⟩ := h
    rfl
  · obtain ⟨z, rfl, hz, qo, qe⟩ := h
    refine ⟨_, pss_cons (ps_set (i := 1) cLTold.nd rfl (Or.inl rfl) pe_non)
      (pss_cons (ps_set (i := 2) cLTold.nd rfl (Or.inl rfl) (pe_un un_neg pe_int))
      (pss_cons (ps_try_hold (i := 3) (j := 1) (tb := fun W => tDrop (tCall (spRead C CT) [] (fun cls d H => ∀ σ, W cls d σ H) (tCons (tVar 0) tNil))) (Wout := fun _ _ _ _ => False) rfl rfl rfl cLTold.nd rfl rfl ⟨rfl, by decide, Or.inl gE⟩ takes0
        (fun W pn xe tk _ => pss_one (ps_expr (pe_call gR hr rfl mR kR bR .nil (passes_call tk (fun cls d σ H h => h σ)) (pa_cons (pv 0) pa_nil))))
        (fun a pn => pss_one (ps_set (i := 1) cLTold.nd rfl (Or.inl rfl) (pv 3))))
      (pss_cons (ps_if (pt_val (pe_callB call_isV (by rfl) zI (by decide +kernel) (pa_cons (pv 1) (pa_cons (pe_gref gT rfl) pa_nil)))) (pss_one (ps_set (i := 2) cLTold.nd rfl (Or.inl rfl) (pe_xr (pv 1)))) pss_nil)
      (pss_cons (ps_if (PW.pt (pw_or (pt_val (pe_callB call_isVT (by rfl) zI (by decide +kernel) (pa_cons (pv 1) (pa_cons (pe_tup (pa_cons (pe_gref gD rfl) (pa_cons (pe_gref gM rfl) (pa_cons (pe_gref gN rfl) (pa_cons (pe_gref gP rfl) (pa_cons (pe_gref gW rfl) pa_nil)))))) pa_nil))))
        (pw_or1 (pt_val (pe_callB call_isi (by rfl) zI (by decide +kernel) (pa_cons (pv 2) (pa_cons (pe_bty (n := "bool") zb (by decide +kernel) (by rfl)) pa_nil))))))) (pss_one ps_dead) pss_nil)
      (pss_one (ps_ret (pv 2))))))), ?_⟩
    have five : 5 ≤ sizeLine := by rw [sizeLine_eq]; decide
    refine sq_any (fun σ' H' => σ' = [some (.str z), some .non, none, none] ∧ H = H') (fun D' hD => hD _ _ ⟨rfl, rfl⟩) ?_
    rintro σ' _ ⟨rfl, rfl⟩
    refine sq_any (fun σ' H' => σ' = [some (.str z), some .non, some (.int (-1)), none] ∧ H = H') (fun D' hD => ⟨1, rfl, hD _ _ ⟨rfl, rfl⟩⟩) ?_
    rintro σ' _ ⟨rfl, rfl⟩
    have isb : ∀ (n : Int) (H' : Hp) (Q' : Bool → Hp → Prop), Q' false H' → (∃ x c t u b, [V.int n, .ty "bool"] = [x, c] ∧ ClsV c u ∧ TyX K H' x t ∧ PySem.W.kitOne K t u = some b ∧ ∃ k, V.bl b = .bl k ∧ Q' k H') := fun n H' Q' q =>
      ⟨.int n, .ty "bool", .type "int", .type "bool", false, rfl, .ty "bool", .base (.int n), kit_ty (show kitB "int" "bool" = some false by decide +kernel), false, rfl, q⟩
    have anyN : PySem.W.kitAny K (.type "NoneType") [.ref CD, .ref CQ, .ref CN, .ref CP, .ref CW] = some false := by simp only [PySem.W.kitAny, zD, zM, zN, zP, zW]
    have anyT : PySem.W.kitAny K (.ref CT) [.ref CD, .ref CQ, .ref CN, .ref CP, .ref CW] = some false := by simp only [PySem.W.kitAny, kT.k3, kT.k4, kT.k1, kT.k5, kT.k2]
    have cls5 : Paired ClsV [V.ref CD, .ref CQ, .ref CN, .ref CP, .ref CW] [.ref CD, .ref CQ, .ref CN, .ref CP, .ref CW] := .cons (.own CD) (.cons (.own CQ) (.cons (.own CN) (.cons (.own CP) (.cons (.own CW) .nil))))
    refine sq_any (fun σ' H' => (σ' = [some (.str z), some .non, some (.int (-1)), none] ∧ Ex H H' ∧ ∃ r c g t, readRows (Txt.split z "\n") = .ok r c g t) ∨ ∃ (a d : Addr) (k : Nat), σ'.length = 4 ∧ σ'[1]? = some (some (.ref a)) ∧ Ex H H' ∧ H' a = some (Held (.ref CT) (some d) a) ∧ H' d = some (.xd [("row", .int k)]) ∧ readRows (Txt.split z "\n") = .err k) (fun D' hQ => ?_) ?_
    · refine ⟨_, rfl, z, rfl, hz, fun r c g t e H' p d ex hp hd D => hQ _ _ (.inl ⟨rfl, ex, r, c, g, t, e⟩), fun k e H' d ex hd ed σ2 => ?_⟩
      exact hold_readsDL (n := 4) hT (by decide) (by decide) fun σ' a h na hl => hQ _ _ (.inr ⟨a, d, k, hl, h, ex.trans (Evl.Ex.new na), upd_same, by rw [upd_ne (ne_of_none ed na)]; exact ed, e⟩)
    rintro σ' H2 (⟨rfl, ex2, r, c, g, t, e⟩ | ⟨a, d, k, hl, hs, ex2, ea, ed, e⟩)
    · refine sq_if (fun H' => H2 = H') (fun Q' hQ => ⟨_, rfl, .inl ⟨.non, .ref CT, .type "NoneType", .ref CT, false, rfl, .own CT, .base .non, zT, _, rfl, hQ _ rfl⟩⟩) ?_
      rintro _ rfl
      refine sq_if (fun H' => Ex H2 H') (fun Q' hQ => ?_) ?_
      · refine ⟨_, rfl, five, fun tp htp => .inl ⟨.non, tp, _, .type "NoneType", _, false, rfl, upd_same, cls5, .base .non, anyN, _, rfl, iteF ?_⟩⟩
        exact ⟨_, rfl, isb _ _ _ (hQ _ (Evl.Ex.new htp))⟩
      intro H3 ex3
      exact ⟨_, rfl, qo r c g t e H3 (ex2.trans ex3)⟩
    · refine sq_any (fun σ' H' => ∃ σ0 : L2.St, σ0.length = 4 ∧ σ0[1]? = some (some (.ref a)) ∧ σ' = σ0.set 2 (some (.int k)) ∧ H2 = H') (fun D' hD => ?_) ?_
      · refine ⟨_, hs, .inr ⟨a, CT, d, _, .ref CT, .ref CT, true, rfl, ea, ed, kT.e, .own CT, kT.k6, _, rfl, iteT ?_⟩⟩
        exact ⟨_, hs, a, CT, d, _, _, rfl, ea, ed, XF, row, rfl, hD _ _ ⟨_, hl, hs, rfl, rfl⟩⟩
      rintro σ' _ ⟨σ0, l0, h1, rfl, rfl⟩
      have h2 : (σ0.set 2 (some (.int k)))[2]? = some (some (.int (k : Int))) := List.getElem?_set_self (by omega)
      have h1' : (σ0.set 2 (some (.int k)))[1]? = some (some (.ref a)) := by rw [List.getElem?_set_ne (by decide)]; exact h1
      refine sq_if (fun H' => Ex H2 H') (fun Q' hQ => ?_) ?_
      · refine ⟨_, h1', five, fun tp htp => .inr ⟨a, CT, tp, d, _, _, _, false, rfl, by rw [upd_ne (ne_of_none ea htp)]; exact ea, by rw [upd_ne (ne_of_none ed htp)]; exact ed, upd_same, kT.e, cls5, anyT, _, rfl, iteF ?_⟩⟩
        exact ⟨_, h2, isb _ _ _ (hQ _ (Evl.Ex.new htp))⟩
      intro H3 ex3
      exact ⟨_, h2, qe k e H3 (ex2.trans ex3)⟩
end
theorem sq_way {way : Nat} {n : Int} {t rest : TS} {D : Ends} {σ : L2.St} {H : Hp} (m : Nat) (hm : n = (m : Int)) (hs : σ[2]? = some (some (.int (way : Int)))) (kt : way = m → t { D with nx := rest D } σ H) (kf : way ≠ m → rest D σ H) : tSeq (tIfS (tTest (tOp rEq (tVar 2) (tC (.int n)))) t tNext) rest D σ H := by
  subst hm
  refine sq_ifB (decide (way = m)) (fun Q' hQ => ⟨_, hs, rfl, _, rfl, ?_⟩) (fun hb => kt (of_decide_eq_true hb)) (fun hb => kf (of_decide_eq_false hb))
  by_cases h : way = m
  · rw [decide_eq_true h] at hQ
    rw [decide_eq_true (show V.int (way : Int) = V.int (m : Int) from congrArg V.int (by omega))]
    exact hQ
  · rw [decide_eq_false h] at hQ
    rw [decide_eq_false (show ¬ V.int (way : Int) = V.int (m : Int) from fun e => h (by have := V.int.inj e; omega))]
    exact hQ
theorem lstS_cat {σ : L2.St} {H : Hp} {ta tb : TE} {zs ws : List Str} (ha : Lst σ H ta (zs.map V.str)) (hb : Lst σ H tb (ws.map V.str)) (hl : zs.length + ws.length ≤ 1000000) : Lst σ H (tOp rCat ta tb) ((zs ++ ws).map V.str) :=
  (lst_cat ha hb (by rw [List.length_map, List.length_map, sizeLine_eq]; omega)).to (List.map_append ..).symm
theorem lstS_one {σ : L2.St} {H : Hp} {te : TE} {x : Str} (h : Val σ H te (.str x)) : Lst σ H (tLst (tCons te tNil)) ([x].map V.str) := lst_lit (vls_cons h vls_nil) (by rw [sizeLine_eq]; show 1 ≤ _; decide)
theorem lstS_two {σ : L2.St} {H : Hp} {te tf : TE} {x y : Str} (h : Val σ H te (.str x)) (h2 : Val σ H tf (.str y)) : Lst σ H (tLst (tCons te (tCons tf tNil))) ([x, y].map V.str) := lst_lit (vls_cons h (vls_cons h2 vls_nil)) (by rw [sizeLine_eq]; show 2 ≤ _; decide)
theorem val_pick01 {K : PySem.W.Frag} {σ : L2.St} {H : Hp} {ta tb : TE} {u v : V} {b : Bool} (hl : Lst σ H ta [u, v]) (hi : Val σ H tb (.int (if b = true then 1 else 0))) : Val σ H (tOp (rIxL K) ta tb) (if b = true then v else u) := by
  cases b
  · exact val_pick (j := 0) hl hi rfl
  · exact val_pick (j := 1) hl hi rfl
theorem iteT' {b : Bool} {p q : Prop} (h : b = true) (x : p) : if b = true then p else q := by rw [if_pos h]; exact x
theorem iteF' {b : Bool} {p q : Prop} (h : b = false) (x : q) : if b = true then p else q := by rw [if_neg (by rw [h]; exact Bool.false_ne_true)]; exact x
theorem set_of_val {te : TE} {i : Nat} {D : Ends} {σ : L2.St} {H : Hp} {v : V} (h : Val σ H te v) (q : ∀ H2 : Hp, Ex H H2 → D.nx (σ.set i (some v)) H2) : tAsg te (gName i) D σ H := h H (Ex.refl _) _ q
/-! ### rows spoilt, walked -/
section
variable {P : Program} {w : World} {K : PySem.W.Frag} {mg : Str → Option Value} {base : Heap} {C CN CW CD CQ CP CT CE : Addr}
def spSpoilt : Sp := fun vs H Q _ => ∃ (lr : Addr) (rows : List Str) (at' way : Nat) (long : Str), vs = [.ref lr, .int at', .int way, .str long] ∧ H lr = some (.lst (rows.map V.str)) ∧ at' < rows.length ∧ way < 19 ∧ rows.length ≤ 1000 ∧ (∀ x ∈ rows, x.length ≤ 1000) ∧ long.length ≤ 1000 ∧
  ∀ (H2 : Hp) (l tp : Addr), Ex H H2 → H2 l = some (.lst ((spoilt rows at' way long).1.map V.str)) → H2 tp = some (.tup [.ref l, .int (spoilt rows at' way long).2]) → Q (.ref tp) H2
theorem ok_spoilt {f : Addr} {fd : FuncData} (F : Fun K "_law_spoilt" "_law_spoilt" sLSpoilt f fd) (zl : mg "len" = none) (zi : mg "int" = none) : FnOk P w K mg base CX0 1 f fd pLSpoilt spSpoilt := by
  refine F.ok cLSpoilt (fun vs H Q E h => ?_) (fun cdv A outer s H vs Q E hr h => ?_)
  · obtain ⟨lr, rows, at', way, long, rfl, _⟩ := h
    rfl
  · obtain ⟨lr, rows, at', way, long, rfl, hlr, hat, hway, hn, hx, hlong, q⟩ := h
    refine ⟨_, (pss_cons (ps_set (i := 4) cLSpoilt.nd rfl (Or.inl rfl) (pe_ix ix_list (pv 0) (pv 1) (fun _ _ => rfl)))
      (pss_key (psk_ifC op_eq (pv 2) (pss_one (ps_ret (pe_tup (pa_cons (pe_op op_cat (pe_op op_cat (pe_slice sl_list (pv 0) po_none (po_some (pv 1))) (pe_lst (pa_cons pe_str pa_nil))) (pe_slice sl_list (pv 0) (po_some (pv 1)) po_none)) (pa_cons (pv 1) pa_nil))))) pss_nil)
      (psst_cons (PST.of (ps_if (pt_cmpR op_eq (pv 2) pe_int (nomark _)) (pss_one (ps_ret (pe_tup (pa_cons (pe_op op_cat (pe_op op_cat (pe_slice sl_list (pv 0) po_none (po_some (pv 1))) (pe_lst (pa_cons (pv 4) pa_nil))) (pe_slice sl_list (pv 0) (po_some (pv 1)) po_none)) (pa_cons (pe_ix ix_list (pe_lst (pa_cons (pe_op op_add (pv 1) pe_int) (pa_cons pe_int pa_nil))) (pe_callTy call_int1 (by rfl) zi (by decide +kernel) (pa_cons (pe_cmpR op_eq (pv 1) pe_int (nomark _)) pa_nil)) (fun _ _ => rfl)) pa_nil))))) pss_nil))
      (psst_cons (PST.of (ps_if (pt_cmpR op_eq (pv 2) pe_int (nomark _)) (pss_one (ps_ret (pe_tup (pa_cons (pe_op op_cat (pe_op op_cat (pe_slice sl_list (pv 0) po_none (po_some (pv 1))) (pe_lst (pa_cons pe_str pa_nil))) (pe_slice sl_list (pv 0) (po_some (pv 1)) po_none)) (pa_cons (pv 1) pa_nil))))) pss_nil))
      (psst_cons (PST.of (ps_if (pt_cmpR op_eq (pv 2) pe_int (nomark _)) (pss_one (ps_ret (pe_tup (pa_cons (pe_op op_cat (pe_slice sl_list (pv 0) po_none (po_some (pv 1))) (pe_slice sl_list (pv 0) (po_some (pe_op op_add (pv 1) pe_int)) po_none)) (pa_cons (pe_ix ix_list (pe_lst (pa_cons (pe_un un_neg pe_int) (pa_cons pe_int pa_nil))) (pe_callTy call_int1 (by rfl) zi (by decide +kernel) (pa_cons (pe_cmpR op_eq (pv 1) pe_int (nomark _)) pa_nil)) (fun _ _ => rfl)) pa_nil))))) pss_nil))
      (psst_cons (PST.of (ps_if (pt_cmpR op_eq (pv 2) pe_int (nomark _)) (pss_cons (ps_set (i := 5) cLSpoilt.nd rfl (Or.inl rfl) (pe_ix ix_list (pe_lst (pa_cons (pe_op op_add (pv 1) pe_int) (pa_cons pe_int pa_nil))) (pe_callTy call_int1 (by rfl) zi (by decide +kernel) (pa_cons (pe_cmpR op_eq (pv 1) pe_int (nomark _)) pa_nil)) (fun _ _ => rfl))) (pss_one (ps_ret (pe_tup (pa_cons (pe_op op_cat (pe_op op_cat (pe_slice sl_list (pv 0) po_none (po_some (pv 1))) (pe_revL (pe_slice sl_list (pv 0) (po_some (pv 1)) (po_some (pe_op op_add (pv 1) pe_int))))) (pe_slice sl_list (pv 0) (po_some (pe_op op_add (pv 1) pe_int)) po_none)) (pa_cons (pe_ix ix_list (pe_lst (pa_cons (pv 5) (pa_cons (pe_un un_neg pe_int) pa_nil))) (pe_callTy call_int1 (by rfl) zi (by decide +kernel) (pa_cons (pe_cmpR op_eq (pe_op op_add (pv 1) pe_int) (pe_callB call_len_seq (by rfl) zl PySem.boot_len (pa_cons (pv 0) pa_nil)) (nomark _)) pa_nil)) (fun _ _ => rfl)) pa_nil)))))) pss_nil))
      (psst_cons (PST.of (ps_if (pt_cmpR op_eq (pv 2) pe_int (nomark _)) (pss_cons (ps_set (i := 6) cLSpoilt.nd rfl (Or.inl rfl) (pe_split (pv 4) pe_str)) (pss_one (ps_ret (pe_tup (pa_cons (pe_op op_cat (pe_op op_cat (pe_slice sl_list (pv 0) po_none (po_some (pv 1))) (pe_lst (pa_cons (pe_bm PySem.F.plainAttrs_str PySem.F.slot_str_join PySem.F.type_str_join mt_join pe_str (pa_cons (pe_op op_cat (pe_op op_cat (pe_slice sl_list (pv 6) po_none (po_some pe_int)) (pe_lst (pa_cons pe_str pa_nil))) (pe_slice sl_list (pv 6) (po_some pe_int) po_none)) pa_nil)) pa_nil))) (pe_slice sl_list (pv 0) (po_some (pe_op op_add (pv 1) pe_int)) po_none)) (pa_cons (pv 1) pa_nil)))))) pss_nil))
      (psst_cons (PST.of (ps_if (pt_cmpR op_eq (pv 2) pe_int (nomark _)) (pss_one (ps_ret (pe_tup (pa_cons (pe_op op_cat (pe_lst (pa_cons (pe_bm PySem.F.plainAttrs_str PySem.F.slot_str_join PySem.F.type_str_join mt_join pe_str (pa_cons (pe_op op_cat (pe_lst (pa_cons pe_str (pa_cons pe_str pa_nil))) (pe_slice sl_list (pe_split (pe_ix ix_list (pv 0) pe_int (fun _ _ => rfl)) pe_str) (po_some pe_int) po_none)) pa_nil)) pa_nil)) (pe_slice sl_list (pv 0) (po_some pe_int) po_none)) (pa_cons pe_int pa_nil))))) pss_nil))
      (psst_cons (pst_set (i := 7) cLSpoilt.nd rfl (Or.inl rfl) (pet_ix ix_list (pet_lst (pat_cons (CwR.PET.of (pe_op op_add_str (pv 4) pe_str)) (pat_cons (CwR.PET.of (pe_op op_add_str pe_str (pv 4))) (pat_cons (pet_rep1 (pv 4)) (pat_cons (CwR.PET.of (pe_op op_add_str (pv 4) pe_str)) (pat_cons (pet_rep1 (pv 4)) pat_nil)))))) (pe_op op_mod (pe_op op_sub (pv 2) pe_int) pe_int) (fun _ _ => rfl)))
      (psst_cons (CwR.pst_if (pt_cmpR op_gt (pv 2) pe_int (nomark _)) (psst_cons (pst_set (i := 8) cLSpoilt.nd rfl (Or.inl rfl) (pet_lst (pat_cons (pet_rep1 (pv 4)) (pat_cons (CwR.PET.of (pe_upper (pv 4))) (pat_cons (CwR.PET.of (pe_op op_add_str (pv 4) pe_str)) (pat_cons (CwR.PET.of (pe_ix ix_list (pe_split (pv 4) pe_str) pe_int (fun _ _ => rfl))) pat_nil)))))) (CwR.psst_one (pst_set (i := 7) cLSpoilt.nd rfl (Or.inl rfl) (pet_ix ix_list (CwR.pet_op op_cat (CwR.PET.of (pv 8)) (pet_lst (pat_cons (pet_rep1 (pv 4)) pat_nil))) (pe_op op_mod (pe_op op_sub (pv 2) pe_int) pe_int) (fun _ _ => rfl))))) (PSsT.of pss_nil))
      (psst_cons (PST.of (ps_if (pt_cmpR op_eq (pv 2) pe_int (nomark _)) (pss_one (ps_set (i := 7) cLSpoilt.nd rfl (Or.inl rfl) (pe_bm PySem.F.plainAttrs_str PySem.F.slot_str_join PySem.F.type_str_join mt_join pe_str (pa_cons (pe_op op_cat (pe_slice sl_list (pe_split (pv 4) pe_str) po_none (po_some (pe_un un_neg pe_int))) (pe_lst (pa_cons (pe_op op_add_str (pe_op op_add_str pe_str (pe_op op_mulS pe_str pe_int)) pe_str) pa_nil))) pa_nil)))) pss_nil))
      (psst_cons (PST.of (ps_if (pt_cmpR op_eq (pv 2) pe_int (nomark _)) (pss_one (ps_set (i := 7) cLSpoilt.nd rfl (Or.inl rfl) (pe_bm PySem.F.plainAttrs_str PySem.F.slot_str_join PySem.F.type_str_join mt_join pe_str (pa_cons (pe_op op_cat (pe_lst (pa_cons (pv 3) pa_nil)) (pe_slice sl_list (pe_split (pv 4) pe_str) (po_some pe_int) po_none)) pa_nil)))) pss_nil))
      (PSsT.of (pss_one (ps_ret (pe_tup (pa_cons (pe_op op_cat (pe_op op_cat (pe_slice sl_list (pv 0) po_none (po_some (pv 1))) (pe_lst (pa_cons (pv 7) pa_nil))) (pe_slice sl_list (pv 0) (po_some (pe_op op_add (pv 1) pe_int)) po_none)) (pa_cons (pv 1) pa_nil)))))))))))))))))), ?_⟩
    have sz : ∀ n : Nat, n ≤ 1000000 → n ≤ sizeLine := fun n h => by rw [sizeLine_eq]; omega
    have hrow : (rows.map V.str)[at']? = some (.str (rows.getD at' "")) := by
      rw [List.getElem?_map, List.getElem?_eq_getElem hat, List.getD_eq_getElem?_getD, List.getElem?_eq_getElem hat]
      rfl
    have hrow0 : (rows.map V.str)[0]? = some (.str (rows.getD 0 "")) := by
      rw [List.getElem?_map, List.getElem?_eq_getElem (by omega), List.getD_eq_getElem?_getD, List.getElem?_eq_getElem (by omega)]
      rfl
    have hrl : (rows.getD at' "").length ≤ 1000 := by
      rw [List.getD_eq_getElem?_getD, List.getElem?_eq_getElem hat]
      exact hx _ (List.getElem_mem hat)
    have hrl0 : (rows.getD 0 "").length ≤ 1000 := by
      rw [List.getD_eq_getElem?_getD, List.getElem?_eq_getElem (by omega)]
      exact hx _ (List.getElem_mem _)
    have spl : ∀ z : Str, z.length ≤ 1000 → (Txt.split z " ").length ≤ 1002 ∧ ∀ p ∈ Txt.split z " ", p.length ≤ 1000 := fun z hz => ⟨by have := split_size z " "; omega, fun p hp => by have := split_le hp; omega⟩
    have jl : ∀ zs : List Str, (∀ x ∈ zs, x.length ≤ 1000) → zs.length ≤ 2000 → (zs.map (·.length)).sum + zs.length * (" " : Str).length ≤ 16777216 := fun zs h1 h2 => by
      have := sum_len_le h1
      have bl : (" " : Str).length = 1 := by decide +kernel
      rw [bl]
      omega
    refine sq_any (fun σ' H' => σ' = [some (.ref lr), some (.int at'), some (.int way), some (.str long), some (.str (rows.getD at' "")), none, none, none, none] ∧ H = H') (fun D' hD => ⟨_, rfl, _, rfl, lr, _, _, _, rfl, rfl, SqL.of hlr, atI_nat hrow, hD _ _ ⟨rfl, rfl⟩⟩) ?_
    rintro σ' _ ⟨rfl, rfl⟩
    have S : ∀ {σ : L2.St} {H' : Hp}, Ex H H' → σ[0]? = some (some (.ref lr)) → Lst σ H' (tVar 0) (rows.map V.str) := fun e h => lst_pv h (e _ _ hlr)
    have addl : ∀ {σ : L2.St} {H' : Hp}, σ[1]? = some (some (.int at')) → ∀ (m : Nat), Val σ H' (tOp (rI0 fun i j => .int (i + j)) (tVar 1) (tC (.int (m : Int)))) (.int ((at' + m : Nat) : Int)) := fun h m => val_i0 (val_pv h) val_c
    have z0 : ∀ {σ : L2.St} {H' : Hp}, σ[1]? = some (some (.int at')) → Val σ H' (tOp rEq (tVar 1) (tC (.int 0))) (.bl (decide (at' = 0))) := fun h => (val_eq (val_pv h) val_c rfl).to (congrArg V.bl (decide_eq_decide.mpr ⟨fun e => by have := V.int.inj e; omega, fun e => by rw [e]; rfl⟩))
    have dueA : ∀ {σ : L2.St} {H' : Hp} (u v : Int) {ta tb : TE}, σ[1]? = some (some (.int at')) → Val σ H' ta (.int u) → Val σ H' tb (.int v) → Val σ H' (tOp (rIxL K) (tLst (tCons ta (tCons tb tNil))) (tCB (fun xs H Q => (∃ i, xs = [.int i] ∧ Q (.int i) H) ∨ ∃ k, xs = [.bl k] ∧ Q (.int (if k then 1 else 0)) H) (tCons (tOp rEq (tVar 1) (tC (.int 0))) tNil))) (.int (if at' = 0 then v else u)) := fun u v _ _ h hu hv =>
      (val_pick01 (lst_lit (vls_cons hu (vls_cons hv vls_nil)) (sz _ (by show 2 ≤ _; decide))) (val_int1 (z0 h))).to (by by_cases h0 : at' = 0 <;> simp [h0])
    refine sq_way 0 rfl rfl (fun hw => ?_) (fun hw0 => ?_)
    · subst hw
      exact rd_ret2 (lstS_cat (lstS_cat (lst_to (S (Ex.refl _) rfl) (val_pv rfl)) (lstS_one val_c) (by simp only [List.length_append, List.length_take, List.length_drop, List.length_cons, List.length_nil, List.length_reverse]; omega)) (lst_from (S (Ex.refl _) rfl) (val_pv rfl)) (by simp only [List.length_append, List.length_take, List.length_drop, List.length_cons, List.length_nil, List.length_reverse]; omega)) (val_pv rfl) fun H2 l tp ex el et => q H2 l tp ex el et
    refine sq_way 1 rfl rfl (fun hw => ?_) (fun hw1 => ?_)
    · subst hw
      exact rd_ret2 (lstS_cat (lstS_cat (lst_to (S (Ex.refl _) rfl) (val_pv rfl)) (lstS_one (val_pv rfl)) (by simp only [List.length_append, List.length_take, List.length_drop, List.length_cons, List.length_nil, List.length_reverse]; omega)) (lst_from (S (Ex.refl _) rfl) (val_pv rfl)) (by simp only [List.length_append, List.length_take, List.length_drop, List.length_cons, List.length_nil, List.length_reverse]; omega)) (dueA ((at' + 1 : Nat) : Int) 1 rfl (addl rfl 1) val_c) fun H2 l tp ex el et => q H2 l tp ex el et
    refine sq_way 2 rfl rfl (fun hw => ?_) (fun hw2 => ?_)
    · subst hw
      exact rd_ret2 (lstS_cat (lstS_cat (lst_to (S (Ex.refl _) rfl) (val_pv rfl)) (lstS_one val_c) (by simp only [List.length_append, List.length_take, List.length_drop, List.length_cons, List.length_nil, List.length_reverse]; omega)) (lst_from (S (Ex.refl _) rfl) (val_pv rfl)) (by simp only [List.length_append, List.length_take, List.length_drop, List.length_cons, List.length_nil, List.length_reverse]; omega)) (val_pv rfl) fun H2 l tp ex el et => q H2 l tp ex el et
    refine sq_way 15 rfl rfl (fun hw => ?_) (fun hw15 => ?_)
    · subst hw
      exact rd_ret2 (lstS_cat (lst_to (S (Ex.refl _) rfl) (val_pv rfl)) (lst_from (S (Ex.refl _) rfl) (addl rfl 1)) (by simp only [List.length_append, List.length_take, List.length_drop, List.length_cons, List.length_nil, List.length_reverse]; omega)) (dueA (-1) 0 rfl (val_un val_c) val_c) fun H2 l tp ex el et => q H2 l tp ex el et
    refine sq_way 16 rfl rfl (fun hw => ?_) (fun hw16 => ?_)
    · subst hw
      refine sq_any (fun σ' H' => σ' = [some (.ref lr), some (.int at'), some (.int (16 : Nat)), some (.str long), some (.str (rows.getD at' "")), some (.int (if at' = 0 then 0 else ((at' + 1 : Nat) : Int))), none, none, none] ∧ Ex H H') (fun D' hD => dueA ((at' + 1 : Nat) : Int) 0 rfl (addl rfl 1) val_c H (Ex.refl _) _ fun H2 e2 => hD _ _ ⟨rfl, e2⟩) ?_
      rintro σ' H1 ⟨rfl, ex1⟩
      have zl : ∀ {σ : L2.St}, σ[0]? = some (some (.ref lr)) → σ[1]? = some (some (.int at')) → Val σ H1 (tOp rEq (tOp (rI0 fun i j => .int (i + j)) (tVar 1) (tC (.int ((1 : Nat) : Int)))) (tCB (fun ys H Q => ∃ p zs, ys = [.ref p] ∧ (SqL K H p zs ∨ SqT K H p zs) ∧ Q (.int zs.length) H) (tCons (tVar 0) tNil))) (.bl (decide (at' + 1 = rows.length))) := fun h0 h1 =>
        (val_eq (addl h1 1) (val_len (S ex1 h0)) rfl).to (congrArg V.bl (decide_eq_decide.mpr ⟨fun e => by have := V.int.inj e; rw [List.length_map] at this; omega, fun e => by rw [List.length_map, e]⟩))
      refine rd_ret2 (lstS_cat (lstS_cat (lst_to (S ex1 rfl) (val_pv rfl)) ((lst_rev (lst_mid (m := 2) (S ex1 rfl) (val_pv rfl) (addl rfl 2) (by omega))).to List.map_reverse.symm) (by simp only [List.length_append, List.length_take, List.length_drop, List.length_cons, List.length_nil, List.length_reverse]; omega)) (lst_from (S ex1 rfl) (addl rfl 2)) (by simp only [List.length_append, List.length_take, List.length_drop, List.length_cons, List.length_nil, List.length_reverse]; omega))
        ((val_pick01 (lst_lit (vls_cons (val_pv rfl) (vls_cons (val_un val_c) vls_nil)) (sz _ (by show 2 ≤ _; decide))) (val_int1 (zl rfl rfl))).to (v' := .int (if at' + 1 = rows.length then -1 else if at' = 0 then 0 else (at' : Int) + 1)) (by by_cases h0 : at' + 1 = rows.length <;> simp [h0])) fun H2 l tp ex el et => q H2 l tp (ex1.trans ex) el et
    refine sq_way 17 rfl rfl (fun hw => ?_) (fun hw17 => ?_)
    · subst hw
      have sp := spl _ hrl
      refine sq_any (fun σ' H' => ∃ lw : Addr, σ' = [some (.ref lr), some (.int at'), some (.int (17 : Nat)), some (.str long), some (.str (rows.getD at' "")), none, some (.ref lw), none, none] ∧ Ex H H' ∧ H' lw = some (.lst ((Txt.split (rows.getD at' "") " ").map V.str)))
        (fun D' hD => lst_split (val_pv rfl) val_c (by decide +kernel) (sz _ (by omega)) H (Ex.refl _) _ fun H2 l e2 el => hD _ _ ⟨l, rfl, e2, el⟩) ?_
      rintro σ' H1 ⟨lw, rfl, ex1, ew⟩
      have W : ∀ {σ : L2.St}, σ[6]? = some (some (.ref lw)) → Lst σ H1 (tVar 6) ((Txt.split (rows.getD at' "") " ").map V.str) := fun h => lst_pv h ew
      refine rd_ret2 (lstS_cat (lstS_cat (lst_to (S ex1 rfl) (val_pv rfl)) (lstS_one (val_join val_c (lstS_cat (lstS_cat (lst_to (k := 1) (W rfl) val_c) (lstS_one val_c) (by simp only [List.length_append, List.length_take, List.length_drop, List.length_cons, List.length_nil, List.length_reverse]; omega)) (lst_from (k := 2) (W rfl) val_c) (by simp only [List.length_append, List.length_take, List.length_drop, List.length_cons, List.length_nil, List.length_reverse]; omega)) (jl _ (fun x hx => ?_) (by simp only [List.length_append, List.length_take, List.length_drop, List.length_cons, List.length_nil, List.length_reverse]; omega)))) (by simp only [List.length_append, List.length_take, List.length_drop, List.length_cons, List.length_nil, List.length_reverse]; omega)) (lst_from (S ex1 rfl) (addl rfl 1)) (by simp only [List.length_append, List.length_take, List.length_drop, List.length_cons, List.length_nil, List.length_reverse]; omega)) (val_pv rfl) fun H2 l tp ex el et => q H2 l tp (ex1.trans ex) el et
      rcases List.mem_append.mp hx with hx | hx
      · rcases List.mem_append.mp hx with hx | hx
        · exact sp.2 x (List.mem_of_mem_take hx)
        · rw [List.mem_singleton.mp hx]
          decide +kernel
      · exact sp.2 x (List.mem_of_mem_drop hx)
    refine sq_way 18 rfl rfl (fun hw => ?_) (fun hw18 => ?_)
    · subst hw
      have sp := spl _ hrl0
      refine rd_ret2 (lstS_cat (lstS_one (val_join val_c (lstS_cat (lstS_two val_c val_c) (lst_from (k := 2) (lst_split (val_pick (j := 0) (S (Ex.refl _) rfl) val_c hrow0) val_c (by decide +kernel) (sz _ (by omega))) val_c) (by simp only [List.length_append, List.length_take, List.length_drop, List.length_cons, List.length_nil, List.length_reverse]; omega)) (jl _ (fun x hx => ?_) (by simp only [List.length_append, List.length_take, List.length_drop, List.length_cons, List.length_nil, List.length_reverse]; omega)))) (lst_from (k := 1) (S (Ex.refl _) rfl) val_c) (by simp only [List.length_append, List.length_take, List.length_drop, List.length_cons, List.length_nil, List.length_reverse]; omega)) val_c fun H2 l tp ex el et => q H2 l tp ex el et
      rcases List.mem_append.mp hx with hx | hx
      · simp only [List.mem_cons, List.not_mem_nil, or_false] at hx
        rcases hx with rfl | rfl <;> decide +kernel
      · exact sp.2 x (List.mem_of_mem_drop hx)
    -- the changed row
    have w3 : 3 ≤ way := by omega
    have wl : way ≤ 14 := by omega
    have l1 : (" " : Str).length = 1 := by decide +kernel
    have l2 : ("  " : Str).length = 2 := by decide +kernel
    have l3 : ("0 1" : Str).length = 3 := by decide +kernel
    have l4 : (" 0" : Str).length = 2 := by decide +kernel
    have l5 : ("\t" : Str).length = 1 := by decide +kernel
    have l6 : ("." : Str).length = 1 := by decide +kernel
    have l7 : (" -" : Str).length = 2 := by decide +kernel
    have gt : ∀ {σ : L2.St} {xs : List Str} {k : Nat} {te ti : TE} {H' : Hp}, k < xs.length → Lst σ H' te (xs.map V.str) → Val σ H' ti (.int (k : Int)) → Val σ H' (tOp (rIxL K) te ti) (.str (xs.getD k "")) := fun hk hl hi => val_pick hl hi (by
      rw [List.getElem?_map, List.getElem?_eq_getElem hk, List.getD_eq_getElem?_getD, List.getElem?_eq_getElem hk]
      rfl)
    generalize hrw : rows.getD at' "" = row at hrl
    refine sq_any (fun σ' H' => σ' = [some (.ref lr), some (.int at'), some (.int way), some (.str long), some (.str row), none, none, some (.str ((chgA row).getD ((way - 3) % 5) "")), none] ∧ Ex H H') (fun D' hD => ?_) ?_
    · refine gt (xs := chgA row) (by show _ < 5; omega) (lst_lit (vls_cons (val_addS (val_pv rfl) val_c (sz _ (by omega))) (vls_cons (val_addS val_c (val_pv rfl) (sz _ (by omega))) (vls_cons (val_rep (val_pv rfl) (by rw [l2]; omega)) (vls_cons (val_addS (val_pv rfl) val_c (sz _ (by omega))) (vls_cons (val_rep (val_pv rfl) (by rw [l4]; omega)) vls_nil))))) (sz _ (by show 5 ≤ _; decide)))
        ((val_iC (val_i0 (val_pv rfl) val_c) val_c (by decide)).to (congrArg V.int (by omega))) H (Ex.refl _) _ fun H2 e2 => hD _ _ ⟨rfl, e2⟩
    rintro σ' H1 ⟨rfl, ex1⟩
    refine sq_any (fun σ' H' => ∃ v8 : Option V, σ' = [some (.ref lr), some (.int at'), some (.int way), some (.str long), some (.str row), none, none, some (.str (if 7 < way then (chgB row).getD ((way - 8) % 5) "" else (chgA row).getD ((way - 3) % 5) "")), v8] ∧ Ex H H') (fun D' hD => ?_) ?_
    · refine ⟨_, rfl, _, _, rfl, rfl, _, rfl, ?_⟩
      by_cases h7 : 7 < way
      · refine iteT' (decide_eq_true (by omega)) ?_
        have sp := spl _ hrl
        have hd0 : ((Txt.split row " ").map V.str)[0]? = some (.str ((Txt.split row " ").headD "")) := by
          cases e : Txt.split row " " with
          | nil => exact absurd e (rows_ne row " ")
          | cons a l => rfl
        have v4 : ∀ {H' : Hp}, Val [some (.ref lr), some (.int at'), some (.int way), some (.str long), some (.str row), none, none, some (.str ((chgA row).getD ((way - 3) % 5) "")), none] H' (tVar 4) (.str row) := val_pv rfl
        refine sq_any (fun σ' H' => ∃ l8 : Addr, σ' = [some (.ref lr), some (.int at'), some (.int way), some (.str long), some (.str row), none, none, some (.str ((chgA row).getD ((way - 3) % 5) "")), some (.ref l8)] ∧ Ex H1 H' ∧ H' l8 = some (.lst ([rep1 row " " "\t", Txt.upper row, row ++ ".", (Txt.split row " ").headD ""].map V.str))) (fun D2 hD2 => ?_) ?_
        · refine lst_lit (vls_cons (val_rep v4 (by rw [l5]; omega)) (vls_cons (val_upper v4 (by omega)) (vls_cons (val_addS v4 val_c (sz _ (by omega))) (vls_cons (val_pick (j := 0) (lst_split v4 val_c (by decide +kernel) (sz _ (by omega))) val_c hd0) vls_nil)))) (sz _ (by show 4 ≤ _; decide)) H1 (Ex.refl _) _ fun H2 l e2 el => hD2 _ _ ⟨l, rfl, e2, el⟩
        rintro σ' H2 ⟨l8, rfl, ex2, e8⟩
        exact gt (xs := chgB row) (k := (way - 8) % 5) (by show _ < 5; omega) ((lst_cat (lst_pv rfl e8) (lst_lit (vls_cons (val_rep (val_pv rfl) (by rw [l7]; omega)) vls_nil) (sz _ (by show 1 ≤ _; decide))) (sz _ (by show 4 + 1 ≤ _; decide))).to rfl)
          ((val_iC (val_i0 (val_pv rfl) val_c) val_c (by decide)).to (congrArg V.int (by omega))) H2 (Ex.refl _) _ fun H3 e3 => hD _ _ ⟨_, by rw [if_pos h7]; rfl, (ex1.trans ex2).trans e3⟩
      · refine iteF' (decide_eq_false (by omega)) ?_
        exact hD _ _ ⟨_, by rw [if_neg h7], ex1⟩
    rintro σ' H2 ⟨v8, rfl, ex2⟩
    have sp := spl _ hrl
    have wq : ∀ m : Nat, decide (V.int (way : Int) = V.int (m : Int)) = decide (way = m) := fun m => decide_eq_decide.mpr ⟨fun e => by have := V.int.inj e; omega, fun e => by rw [e]⟩
    have vg : ∀ {σ : L2.St} {H' : Hp}, Val σ H' _ (.str great70) := val_addS (a := "1" ++ PySem.Txt.mul "0" 70) (b := "1") (val_addS (a := "1") (b := PySem.Txt.mul "0" 70) (val_c (v := .str "1")) (val_mulS (z := "0") (n := 70) (val_c (v := .str "0")) (val_c (v := .int 70)) ⟨by decide, fun _ _ => by decide +kernel, fun _ _ => by decide +kernel⟩) (by rw [sizeLine_eq]; decide +kernel)) (val_c (v := .str "1")) (by rw [sizeLine_eq]; decide +kernel)
    generalize hc0 : (if 7 < way then (chgB row).getD ((way - 8) % 5) "" else (chgA row).getD ((way - 3) % 5) "") = c0
    refine sq_any (fun σ' H' => σ' = [some (.ref lr), some (.int at'), some (.int way), some (.str long), some (.str row), none, none, some (.str (if way = 13 then Txt.join " " ((Txt.split row " ").dropLast ++ [great70]) else c0)), v8] ∧ Ex H H') (fun D' hD => ?_) ?_
    · refine ⟨_, rfl, rfl, _, rfl, ?_⟩
      rw [show decide (V.int (way : Int) = V.int 13) = decide (way = 13) from wq 13]
      by_cases h13 : way = 13
      · refine iteT' (decide_eq_true h13) ?_
        refine set_of_val (v := .str (Txt.join " " ((Txt.split row " ").dropLast ++ [great70]))) (val_join val_c (lstS_cat (lst_init (lst_split (z := row) (y := " ") (val_pv rfl) val_c (by decide +kernel) (sz _ (by omega))) (val_un val_c)) (lstS_one vg) (by simp only [List.length_dropLast, List.length_cons, List.length_nil]; omega)) (jl _ (fun x hx => ?_) (by simp only [List.length_append, List.length_dropLast, List.length_cons, List.length_nil]; omega)) ) fun H3 e3 => hD _ _ ⟨by rw [if_pos h13]; rfl, ex2.trans e3⟩
        rcases List.mem_append.mp hx with hx | hx
        · exact sp.2 x (List.dropLast_subset _ hx)
        · rw [List.mem_singleton.mp hx]
          decide +kernel
      · refine iteF' (decide_eq_false h13) ?_
        exact hD _ _ ⟨by rw [if_neg h13], ex2⟩
    rintro σ' H3 ⟨rfl, ex3⟩
    refine sq_any (fun σ' H' => σ' = [some (.ref lr), some (.int at'), some (.int way), some (.str long), some (.str row), none, none, some (.str (if way = 14 then Txt.join " " ([long] ++ (Txt.split row " ").drop 1) else if way = 13 then Txt.join " " ((Txt.split row " ").dropLast ++ [great70]) else c0)), v8] ∧ Ex H H') (fun D' hD => ?_) ?_
    · refine ⟨_, rfl, rfl, _, rfl, ?_⟩
      rw [show decide (V.int (way : Int) = V.int 14) = decide (way = 14) from wq 14]
      by_cases h14 : way = 14
      · refine iteT' (decide_eq_true h14) ?_
        refine set_of_val (v := .str (Txt.join " " ([long] ++ (Txt.split row " ").drop 1))) (val_join val_c (lstS_cat (lstS_one (val_pv rfl)) (lst_from (k := 1) (lst_split (z := row) (y := " ") (val_pv rfl) val_c (by decide +kernel) (sz _ (by omega))) val_c) (by simp only [List.length_drop, List.length_cons, List.length_nil]; omega)) (jl _ (fun x hx => ?_) (by simp only [List.length_append, List.length_drop, List.length_cons, List.length_nil]; omega)) ) fun H4 e4 => hD _ _ ⟨by rw [if_pos h14]; rfl, ex3.trans e4⟩
        rcases List.mem_append.mp hx with hx | hx
        · rw [List.mem_singleton.mp hx]
          exact hlong
        · exact sp.2 x (List.mem_of_mem_drop hx)
      · refine iteF' (decide_eq_false h14) ?_
        exact hD _ _ ⟨by rw [if_neg h14], ex3⟩
    rintro σ' H4 ⟨rfl, ex4⟩
    have e : spoilt rows at' way long = (rows.take at' ++ [if way = 14 then Txt.join " " ([long] ++ (Txt.split row " ").drop 1) else if way = 13 then Txt.join " " ((Txt.split row " ").dropLast ++ [great70]) else c0] ++ rows.drop (at' + 1), (at' : Int)) := by
      unfold spoilt
      rw [if_neg hw0, if_neg hw1, if_neg hw2, if_neg hw15, if_neg hw16, if_neg hw17, if_neg hw18, hrw]
      unfold chg
      rw [hc0]
    rw [e] at q
    exact rd_ret2 (lstS_cat (lstS_cat (lst_to (S ex4 rfl) (val_pv rfl)) (lstS_one (val_pv rfl)) (by simp only [List.length_append, List.length_take, List.length_drop, List.length_cons, List.length_nil]; omega)) (lst_from (S ex4 rfl) (addl rfl 1)) (by simp only [List.length_append, List.length_take, List.length_drop, List.length_cons, List.length_nil]; omega)) (val_pv rfl) fun H5 l tp ex el et => q H5 l tp (ex4.trans ex) el et
end
/-! ### the law: a text with a fault is refused with its row -/
abbrev st13 (a pn : Addr) (r : Int) (p : Addr) (v4 v5 v6 v7 v8 v9 v10 v11 v12 v13 v14 v15 : Option V) : L2.St :=
  [some (.ref a), some (.ref pn), some (.int r), some (.ref p), v4, v5, v6, v7, v8, v9, v10, v11, v12, v13, v14, v15]
section
variable {K : PySem.W.Frag} {σ : L2.St} {H : Hp} {ta tb te : TE} {D : Ends} {t rest : TS}
theorem val_told {z : Str} (h : Val σ H te (.str z)) (hl : z.length ≤ 100000) : Val σ H (tCall spTold13 [] E0 (tCons te tNil)) (.int (toldT z)) := fun H' e Q q => h H' e _ fun H2 e2 => by
  refine ⟨z, rfl, hl, fun r c g t hr H3 e3 => ?_, fun k hk H3 e3 => ?_⟩
  · have := q H3 (e2.trans e3)
    unfold toldT at this
    rw [hr] at this
    exact this
  · have := q H3 (e2.trans e3)
    unfold toldT at this
    rw [hk] at this
    exact this
theorem val_ne {a b : V} (ha : Val σ H ta a) (hb : Val σ H tb b) (hs : scal a b = true) : Val σ H (tOp rNe ta tb) (.bl (!decide (a = b))) := fun H' e Q q => ha H' e _ fun H2 e2 => hb H2 (e.trans e2) _ fun H3 e3 => ⟨hs, q H3 (e2.trans e3)⟩
theorem val_same {a : Int} (ha : Val σ H ta (.int a)) (hb : Val σ H tb (.int a)) : Val σ H (tOp rNe ta tb) (.bl false) := (val_ne ha hb rfl).to (by rw [decide_eq_true rfl]; rfl)
theorem val_alike {a : Int} (ha : Val σ H ta (.int a)) (hb : Val σ H tb (.int a)) : Val σ H (tOp rEq ta tb) (.bl true) := (val_eq ha hb rfl).to (by rw [decide_eq_true rfl])
theorem rd_test {b : Bool} {Q : Bool → Hp → Prop} (h : Val σ H te (.bl b)) (q : ∀ H2, Ex H H2 → Q b H2) : tTest te σ H Q := h H (Ex.refl _) _ fun H2 e2 => ⟨b, rfl, q H2 e2⟩
theorem rd_if {b : Bool} (h : Val σ H te (.bl b)) (kt : b = true → ∀ H2, Ex H H2 → t D σ H2) (kf : b = false → ∀ H2, Ex H H2 → D.nx σ H2) : tIfS (tTest te) t tNext D σ H := rd_test h fun H2 e2 => by
  cases b with
  | true => exact (if_pos rfl).mpr (kt rfl H2 e2)
  | false => exact (if_neg Bool.false_ne_true).mpr (kf rfl H2 e2)
theorem sq_no (h : Val σ H te (.bl false)) (k : ∀ H2, Ex H H2 → rest D σ H2) : tSeq (tIfS (tTest te) t tNext) rest D σ H := rd_if (D := { D with nx := rest D }) h (fun e => nomatch e) fun _ H2 e2 => k H2 e2
theorem cut_initT (x : Str) : cutS (x ++ "\n") none (some (-1)) = x := by
  refine cs_inj ?_
  unfold cutS
  rw [cs_mk, HT.sIx_none, List.drop_zero, Nat.sub_zero]
  have l1 : ("\n" : Str).length = 1 := by decide +kernel
  have e : HT.sIx (x ++ "\n").length (x ++ "\n").length (some (-1)) = (cs x).length := by
    show (if (-1 : Int) < 0 then ((-1 : Int) + ((x ++ "\n").length : Int)).toNat else min (-1 : Int).toNat (x ++ "\n").length) = _
    rw [if_pos (by decide), str_len_app, l1, cs_len]
    omega
  rw [e]
  show (cs (x ++ "\n")).take (cs x).length = cs x
  rw [cs_app, List.take_left' rfl]
theorem val_initT {x : Str} {t : TE} (ha : Val σ H ta (.str (x ++ "\n"))) (hk : Val σ H t (.int (-1))) (hl : (x ++ "\n").length ≤ sizeLine) : Val σ H (tSl rSlS ta tNoPart (tPart t)) (.str x) :=
  fun H' e Q q => ha H' e _ fun H2 e2 => hk H2 (e.trans e2) _ fun H3 e3 => ⟨_, rfl, _, rfl, hl, by rw [cut_initT]; exact q H3 (e2.trans e3)⟩
theorem val_toT {x : Str} {k : Int} {t : TE} (ha : Val σ H ta (.str x)) (hk : Val σ H t (.int k)) (hl : x.length ≤ sizeLine) : Val σ H (tSl rSlS ta tNoPart (tPart t)) (.str (cutS x none (some k))) :=
  fun H' e Q q => ha H' e _ fun H2 e2 => hk H2 (e.trans e2) _ fun H3 e3 => ⟨_, rfl, _, rfl, hl, q H3 (e2.trans e3)⟩
theorem val_last {x : Str} {zs : List Str} {t : TE} (hl : Lst σ H ta ((zs ++ [x]).map V.str)) (hi : Val σ H t (.int (-1))) : Val σ H (tOp (rIxL K) ta t) (.str x) :=
  fun H' e Q q => hl H' e _ fun H2 l e2 el => hi H2 (e.trans e2) _ fun H3 e3 => ⟨l, _, -1, _, rfl, rfl, SqL.of (e3 _ _ el), by rw [List.map_append]; exact atI_last _ _, q H3 (e2.trans e3)⟩
theorem set_of_lst {i : Nat} {xs : List V} (h : Lst σ H te xs) (q : ∀ (H2 : Hp) (l : Addr), Ex H H2 → H2 l = some (.lst xs) → D.nx (σ.set i (some (.ref l))) H2) : tAsg te (gName i) D σ H := h H (Ex.refl _) _ q
theorem val_neg1 : Val σ H (tUn (rU fun i => .int (-i)) (tC (.int 1))) (.int (-1)) := val_un (g := fun i => .int (-i)) (a := 1) val_c
theorem val_mod {a b : Int} (ha : Val σ H ta (.int a)) (hb : Val σ H tb (.int b)) (hc : 0 < b) : Val σ H (tOp (rI (fun _ j => 0 < j) fun i j => .int (i % j)) ta tb) (.int (a % b)) := val_iC (C := fun _ j => 0 < j) (g := fun i j => .int (i % j)) ha hb hc
theorem val_fdiv {a b : Int} (ha : Val σ H ta (.int a)) (hb : Val σ H tb (.int b)) (hc : 0 < b ∧ b < 1073741824) : Val σ H (tOp (rI CDiv fun i j => .int (i / j)) ta tb) (.int (a / b)) := val_iC (C := CDiv) (g := fun i j => .int (i / j)) ha hb hc
theorem val_add {a b : Int} (ha : Val σ H ta (.int a)) (hb : Val σ H tb (.int b)) : Val σ H (tOp (rI0 fun i j => .int (i + j)) ta tb) (.int (a + b)) := val_i0 (g := fun i j => .int (i + j)) ha hb
theorem val_sub {a b : Int} (ha : Val σ H ta (.int a)) (hb : Val σ H tb (.int b)) : Val σ H (tOp (rI0 fun i j => .int (i - j)) ta tb) (.int (a - b)) := val_i0 (g := fun i j => .int (i - j)) ha hb
theorem call_of_vls {sp : Sp} {dvs vs : List V} {E : XK} {t : TA} {Q : VK} (h : Vls σ H t vs) (q : ∀ H2, Ex H H2 → sp (vs ++ dvs) H2 Q E) : tCall sp dvs E t σ H Q := h H (Ex.refl _) _ q
theorem val_strI {i : Int} (h : Val σ H te (.int i)) (hl : i.natAbs.log2 < 1920) : Val σ H (tCB (fun xs H Q => ∃ i, xs = [.int i] ∧ i.natAbs.log2 < 1920 ∧ Q (.str (toString i)) H) (tCons te tNil)) (.str (numS i)) :=
  fun H' e Q q => h H' e _ fun H2 e2 => ⟨i, rfl, hl, q H2 e2⟩
end
section
variable {P : Program} {w : World} {K : PySem.W.Frag} {mg : Str → Option Value} {base : Heap} {C CN CW CD CQ CT : Addr}
theorem ok_law {f : Addr} {fd : FuncData} (F : Fun K "law" "law" sLaw f fd) (G : LawG P w K mg base C CN CW CD)
    (GW : Gf P w K mg base CX0 2 "written" pWritten (spWritten C)) (GT : Gf P w K mg base CX0 7 "_law_told" pLTold spTold13) (GS : Gf P w K mg base CX0 1 "_law_spoilt" pLSpoilt spSpoilt) (mE : mg "enumerate" = none) (zst : mg "str" = none) : FnOk P w K mg base CX0 8 f fd pLaw (spLaw K) := by
  have T := G.T
  obtain ⟨fI, fdI, MI, GI, bI⟩ := G.made
  obtain ⟨f1, fd1, gCm, bCm, mCm⟩ := G.come.ex
  obtain ⟨f4, fd4, gWe, bWe, mWe⟩ := G.weight.ex
  obtain ⟨fN, fdN, gN, bN, mN, kpN⟩ := G.names.ex
  obtain ⟨fD, fdD, gD, bD, mD, kpD⟩ := G.drawn.ex
  obtain ⟨fC, fdC, gC, bC, mC, kpC⟩ := G.coming.ex
  obtain ⟨fX, fdX, gX, bX, mX, kpX⟩ := G.mixed.ex
  obtain ⟨fW, fdW, gW, bW, mW, kpW⟩ := GW.ex
  obtain ⟨fT, fdT, gT, bT, mT, kpT⟩ := GT.ex
  obtain ⟨fS, fdS, gS, bS, mS, kpS⟩ := GS.ex
  refine F.ok cLaw (fun vs H Q E h => ?_) (fun cdv A outer s H vs Q E hr h => ?_)
  · obtain ⟨a, ns, rfl, _⟩ := h
    rfl
  · obtain ⟨a, ns, rfl, hS, hlen, q⟩ := h
    refine ⟨_, (pss_cons (ps_set (i := 1) cLaw.nd rfl (Or.inl rfl) (pe_call gN (hr.mono (by decide)) rfl mN kpN bN .nil pass0 (pa_cons (pv 0) pa_nil)))
      (pss_cons (ps_set (i := 2) cLaw.nd rfl (Or.inl rfl) (pe_call gD (hr.mono (by decide)) rfl mD kpD bD .nil pass0 (pa_cons (pv 0) pa_nil)))
      (pss_cons (ps_set (i := 3) cLaw.nd rfl (Or.inl rfl) (pe_make MI GI (hr.mono (by decide)) rfl T.mgC bI .nil passL (pa_cons (pv 2) pa_nil)))
      (pss_cons (ps_for PassesOwn.never rfl (pi_enum rfl mE (pa_cons (pv 0) pa_nil)) (pg_tup rfl (pgs_cons (pg_name (i := 4) cLaw.nd rfl (Or.inl rfl)) (pgs_cons (pg_name (i := 5) cLaw.nd rfl (Or.inl rfl)) pgs_nil))) (pss_cons (ps_asg (pe_call gC (hr.mono (by decide)) rfl mC kpC bC .nil pass0 (pa_cons (pv 1) (pa_cons (pv 5) (pa_cons (pv 4) pa_nil)))) (pg_tup rfl (pgs_cons (pg_name (i := 6) cLaw.nd rfl (Or.inl rfl)) (pgs_cons (pg_name (i := 7) cLaw.nd rfl (Or.inl rfl)) pgs_nil))))
      (pss_cons (ps_expr (pe_meth (pv 3) T.cl mCm gCm (hr.mono (by decide)) bCm .nil passL (pa_cons (pv 6) (pa_cons (pv 7) pa_nil))))
      (pss_cons (ps_set (i := 8) cLaw.nd rfl (Or.inl rfl) (pe_call gW (hr.mono (by decide)) rfl mW kpW bW .nil pass0 (pa_cons (pv 3) pa_nil)))
      (pss_cons (ps_set (i := 9) cLaw.nd rfl (Or.inl rfl) (pe_slice sl_list (pe_split (pv 8) pe_str) po_none (po_some (pe_un un_neg pe_int))))
      (pss_cons (ps_set (i := 10) cLaw.nd rfl (Or.inl rfl) (pe_call gX (hr.mono (by decide)) rfl mX kpX bX .nil pass0 (pa_cons (pv 5) (pa_cons (pe_op op_add (pv 4) pe_int) pa_nil))))
      (pss_cons (ps_if (pt_cmpR op_eq (pe_op op_mod (pv 4) pe_int) pe_int (nomark _)) (pss_cons (ps_asg (pe_call gS (hr.mono (by decide)) rfl mS kpS bS .nil pass0 (pa_cons (pv 9) (pa_cons (pe_op op_mod (pe_op op_fdiv (pv 10) pe_int) (pe_callB call_len_seq (by rfl) T.len PySem.boot_len (pa_cons (pv 9) pa_nil))) (pa_cons (pe_op op_mod (pv 10) pe_int) (pa_cons pe_str pa_nil))))) (pg_tup rfl (pgs_cons (pg_name (i := 11) cLaw.nd rfl (Or.inl rfl)) (pgs_cons (pg_name (i := 12) cLaw.nd rfl (Or.inl rfl)) pgs_nil))))
      (pss_one (ps_if (pt_cmpR op_ne (pe_call gT hr rfl mT kpT bT .nil pass0 (pa_cons (pe_op op_add_str (pe_bm PySem.F.plainAttrs_str PySem.F.slot_str_join PySem.F.type_str_join mt_join pe_str (pa_cons (pv 11) pa_nil)) pe_str) pa_nil)) (pv 12) (nomark _)) (pss_one (ps_ret pe_bl)) pss_nil))) pss_nil)
      (pss_cons (ps_if (pt_cmpR op_eq (pe_op op_mod (pv 4) pe_int) pe_int (nomark _)) (pss_cons (ps_set (i := 13) cLaw.nd rfl (Or.inl rfl) (pe_split (pe_ix ix_list (pv 9) pe_int (fun _ _ => rfl)) pe_str))
      (pss_cons (ps_set (i := 14) cLaw.nd rfl (Or.inl rfl) (pe_bm PySem.F.plainAttrs_str PySem.F.slot_str_join PySem.F.type_str_join mt_join pe_str (pa_cons (pe_op op_cat (pe_slice sl_list (pv 13) po_none (po_some pe_int)) (pe_lst (pa_cons (pe_callTy call_str_int (by rfl) zst (by decide +kernel) (pa_cons (pe_op op_sub (pe_meth0 (pv 3) T.cl mWe gWe (hr.mono (by decide)) bWe .nil pass0) pe_int) pa_nil)) pa_nil))) pa_nil)))
      (pss_cons (ps_if (pt_cmpR op_ne (pe_call gT hr rfl mT kpT bT .nil pass0 (pa_cons (pe_op op_add_str (pe_bm PySem.F.plainAttrs_str PySem.F.slot_str_join PySem.F.type_str_join mt_join pe_str (pa_cons (pe_op op_cat (pe_lst (pa_cons (pv 14) pa_nil)) (pe_slice sl_list (pv 9) (po_some pe_int) po_none)) pa_nil)) pe_str) pa_nil)) (pe_callB call_len_seq (by rfl) T.len PySem.boot_len (pa_cons (pv 9) pa_nil)) (nomark _)) (pss_one (ps_ret pe_bl)) pss_nil)
      (pss_cons (ps_if (PW.pt (pw_or (pt_cmpR op_ne (pe_call gT hr rfl mT kpT bT .nil pass0 (pa_cons (pe_slice sl_str (pv 8) po_none (po_some (pe_un un_neg pe_int))) pa_nil)) (pe_callB call_len_seq (by rfl) T.len PySem.boot_len (pa_cons (pv 9) pa_nil)) (nomark _)) (pw_or1 (pt_cmpR op_ne (pe_call gT hr rfl mT kpT bT .nil pass0 (pa_cons (pv 8) pa_nil)) (pe_un un_neg pe_int) (nomark _))))) (pss_one (ps_ret pe_bl)) pss_nil)
      (pss_one (ps_if (pt_cmpR op_ne (pe_call gT hr rfl mT kpT bT .nil pass0 (pa_cons (pe_op op_add_str (pe_slice sl_str (pv 8) po_none (po_some (pe_un un_neg pe_int))) pe_str) pa_nil)) (pe_op op_sub (pe_callB call_len_seq (by rfl) T.len PySem.boot_len (pa_cons (pv 9) pa_nil)) pe_int) (nomark _)) (pss_one (ps_ret pe_bl)) pss_nil)))))) pss_nil)
      (pss_one (ps_if (PW.pt (pw_and (pt_cmpR op_eq (pe_callB call_len_seq (by rfl) T.len PySem.boot_len (pa_cons (pv 9) pa_nil)) (pe_op op_add (pv 2) pe_int) (nomark _)) (pw_and1 (pt_cmpR op_ne (pe_slice sl_str (pe_ix ix_list (pv 9) (pe_un un_neg pe_int) (fun _ _ => rfl)) po_none (po_some pe_int)) pe_str (nomark _))))) (pss_one (ps_if (pt_cmpR op_ne (pe_call gT hr rfl mT kpT bT .nil pass0 (pa_cons (pe_op op_add_str (pv 8) pe_str) pa_nil)) (pe_callB call_len_seq (by rfl) T.len PySem.boot_len (pa_cons (pv 9) pa_nil)) (nomark _)) (pss_one (ps_ret pe_bl)) pss_nil)) pss_nil))))))))))
      (pss_cons (ps_set (i := 15) cLaw.nd rfl (Or.inl rfl) (pe_op op_add_str pe_str (pe_op op_mulS pe_str pe_int)))
      (pss_cons (ps_if (pt_cmpR op_ne (pe_call gT hr rfl mT kpT bT .nil pass0 (pa_cons (pe_op op_add_str (pe_op op_add_str pe_str (pe_op op_mulS pe_str pe_int)) pe_str) pa_nil)) pe_int (nomark _)) (pss_one (ps_ret pe_bl)) pss_nil)
      (pss_cons (ps_if (PW.pt (pw_or (pt_cmpR op_ne (pe_call gT hr rfl mT kpT bT .nil pass0 (pa_cons (pe_op op_add_str (pe_op op_add_str pe_str (pv 15)) pe_str) pa_nil)) (pe_un un_neg pe_int) (nomark _)) (pw_or1 (pt_cmpR op_ne (pe_call gT hr rfl mT kpT bT .nil pass0 (pa_cons (pe_op op_add_str (pe_op op_add_str pe_str (pv 15)) pe_str) pa_nil)) pe_int (nomark _))))) (pss_one (ps_ret pe_bl)) pss_nil)
      (pss_one (ps_ret (pe_and (pe_cmpR op_eq (pe_call gT hr rfl mT kpT bT .nil pass0 (pa_cons pe_str pa_nil)) pe_int (nomark _)) (pe_and (pe_cmpR op_eq (pe_call gT hr rfl mT kpT bT .nil pass0 (pa_cons pe_str pa_nil)) pe_int (nomark _)) (pe_one (pe_cmpR op_eq (pe_call gT hr rfl mT kpT bT .nil pass0 (pa_cons pe_str pa_nil)) (pe_un un_neg pe_int) (nomark _)))))))))))))), ?_⟩
    rw [← wMeth_eq, ← wMake_eq]
    have big : ∀ n : Nat, n ≤ 1000000 → n ≤ sizeLine := fun n h => by rw [sizeLine_eq]; omega
    refine sq_any (fun σ' H' => ∃ (nm : List Str) (pn : Addr), σ' = [some (.ref a), some (.ref pn), none, none, none, none, none, none, none, none, none, none, none, none, none, none] ∧ nm.length = 14 ∧ NamesOk nm ∧ Ex H H' ∧ H' pn = some (.lst (nm.map V.str)))
      (fun D' hD => ⟨_, rfl, a, ns, rfl, hS, fun nm pn H1 hnl hnm hpn ex1 e1 => hD _ _ ⟨nm, pn, rfl, hnl, hnm, ex1, e1⟩⟩) ?_
    rintro σ' H1 ⟨nm, pn, rfl, hnl, hnm, ex1, e1⟩
    refine sq_any (fun σ' H' => ∃ r : Int, σ' = [some (.ref a), some (.ref pn), some (.int r), none, none, none, none, none, none, none, none, none, none, none, none, none] ∧ 1 ≤ r ∧ r ≤ 50 ∧ Ex H1 H')
      (fun D' hD => ⟨_, rfl, a, ns, rfl, sql_ex hS ex1, fun r H2 r1 r2 ex2 => hD _ _ ⟨r, rfl, r1, r2, ex2⟩⟩) ?_
    rintro σ' H2 ⟨r, rfl, r1, r2, ex2⟩
    have e2 : H2 pn = some (.lst (nm.map V.str)) := ex2 _ _ e1
    have hS2 : SqL K H2 a (ns.map V.int) := sql_ex hS (ex1.trans ex2)
    have okn : ∀ n ∈ nm, isName n = true := fun n hn => hnm.ok n hn
    refine sq_any (fun σ' H' => ∃ p d : Addr, σ' = [some (.ref a), some (.ref pn), some (.int r), some (.ref p), none, none, none, none, none, none, none, none, none, none, none, none] ∧ H2 p = none ∧ H2 d = none ∧ Ex H2 H' ∧ DeskAt C H' p d r [] 0 0)
      (fun D' hD => rd_new (fun Q' h' => ⟨_, rfl, h'⟩) r1 r2 fun p d0 H3 np nd0 npd ex3 D0 => hD _ _ ⟨p, d0, rfl, np, nd0, ex3, D0⟩) ?_
    rintro σ' H3 ⟨p, d0, rfl, np, nd0, ex3, D0⟩
    refine sq_any (fun σ H' => ∃ (v4 v5 v6 v7 v8 v9 v10 v11 v12 v13 v14 : Option V), σ = st13 a pn r p v4 v5 v6 v7 v8 v9 v10 v11 v12 v13 v14 none ∧ Ex H2 H') (fun D' hD => ?_) ?_
    · refine ⟨_, rfl, a, ns.map V.int, rfl, sql_ex hS2 ex3, for_it (n := ns.length) (fun i σ H' => ∃ (d : Addr) (pl : CM) (v4 v5 v6 v7 v8 v9 v10 v11 v12 v13 v14 : Option V), σ = st13 a pn r p v4 v5 v6 v7 v8 v9 v10 v11 v12 v13 v14 none ∧ Ex H2 H' ∧ H2 d = none ∧ DeskAt C H' p d r (runC r pl).1 (runC r pl).2.1 (runC r pl).2.2 ∧ okX nm pl ∧ pl.length = i)
        ⟨d0, [], _, _, _, _, _, _, _, _, _, _, _, rfl, ex3, nd0, D0, (fun _ h => nomatch h), rfl⟩ ?_ ?_ ?_ ?_⟩
      · rintro i σ H' hi ⟨d, pl, v4, v5, v6, v7, v8, v9, v10, v11, v12, v13, v14, rfl, ex, _⟩
        exact ⟨ns.map V.int, .int ns[i], sql_ex hS2 ex, by rw [List.getElem?_map, List.getElem?_eq_getElem hi]; rfl⟩
      · rintro σ H' ⟨d, pl, v4, v5, v6, v7, v8, v9, v10, v11, v12, v13, v14, rfl, ex, _⟩
        exact ⟨ns.map V.int, sql_ex hS2 ex, by rw [List.length_map]; exact Nat.le_refl _⟩
      · rintro i σ H4 hi ⟨d, pl, v4, v5, v6, v7, v8, v9, v10, v11, v12, v13, v14, rfl, ex, nd, D, po, pl'⟩ x H5 ⟨T1, y, rfl, nT1, rfl, hy⟩
        have ey := hy _ (sql_ex hS2 ex)
        rw [List.getElem?_map, List.getElem?_eq_getElem hi] at ey
        cases ey
        generalize ns[i] = z
        have exA := Evl.Ex.new (o := .tup [.int ((i : Nat) : Int), .int z]) nT1
        refine ⟨T1, _, rfl, SqT.of upd_same, rfl, _, _, rfl, _, _, rfl, rfl, ?_⟩
        refine sq_any (fun σ' H' => ∃ (n : Str) (wt : Int), σ' = st13 a pn r p (some (.int ((i : Nat) : Int))) (some (.int z)) (some (.str n)) (some (.int wt)) v8 v9 v10 v11 v12 v13 v14 none ∧ n ∈ nm ∧ isWt wt = true ∧ Ex (upd H4 T1 (.tup [.int ((i : Nat) : Int), .int z])) H')
          (fun D' hD => ⟨_, rfl, _, rfl, _, rfl, pn, nm, z, _, rfl, SqL.of ((ex.trans exA) _ _ e2), hnl, fun n wt T2 H6 hn hwt exB nT2 eT2 => ⟨T2, _, rfl, SqT.of eT2, rfl, _, _, rfl, _, _, rfl, rfl, hD _ _ ⟨n, wt, rfl, hn, hwt, exB⟩⟩⟩) ?_
        rintro σ' H6 ⟨n, wt, rfl, hn, hwt, exB⟩
        have ex6 : Ex H2 H6 := (ex.trans exA).trans exB
        -- come
        refine sq_any (fun σ' H' => ∃ d' : Addr, σ' = st13 a pn r p (some (.int ((i : Nat) : Int))) (some (.int z)) (some (.str n)) (some (.int wt)) v8 v9 v10 v11 v12 v13 v14 none ∧ Ex H2 H' ∧ H2 d' = none ∧ DeskAt C H' p d' r (runC r (pl ++ [(n, wt)])).1 (runC r (pl ++ [(n, wt)])).2.1 (runC r (pl ++ [(n, wt)])).2.2) (fun D' hD => ?_) ?_
        · refine rd_come rfl rfl rfl ((D.ex exA).ex exB) (okn n hn) hwt fun H7 d' hd' off D7 => hD _ _ ⟨d', rfl, ex_off ex6 off (fun b hb => ?_), ?_, ?_⟩
          · rcases List.mem_cons.mp hb with rfl | hb
            · exact np
            · rw [List.mem_singleton.mp hb]
              exact nd
          · rcases hd' with rfl | h
            · exact nd
            · exact none_ex ex6 h
          · rw [run_snoc]
            exact D7
        rintro σ' H7 ⟨d7, rfl, ex7, nd7, D7⟩
        have po7 : okX nm (pl ++ [(n, wt)]) := fun e he => by
          rcases List.mem_append.mp he with h | h
          · exact po e h
          · rw [List.mem_singleton.mp h]
            exact ⟨hn, hwt⟩
        have pl7 : (pl ++ [(n, wt)]).length = i + 1 := by rw [List.length_append, pl']; rfl
        have Te := run_tel r1 (by omega) po7
        have B7 := (run_bnd r1 (pl := pl ++ [(n, wt)]) fun e he => (po7 e he).2).sm
        have t7 : 1 ≤ (runC r (pl ++ [(n, wt)])).2.2 := by
          rw [run_tot, sum_app, sumC_cons]
          have h1 : 1 ≤ wt := (of_decide_eq_true hwt).1
          have h2 : 0 ≤ sumC pl := sum_nonneg fun e he => by have := (of_decide_eq_true (po e he).2).1; omega
          have h3 : sumC [] = 0 := rfl
          omega
        have done : ∀ {H' : Hp} {u8 u9 u10 u11 u12 u13 u14 : Option V}, Ex H7 H' → ∃ (d : Addr) (pl : CM) (v4 v5 v6 v7 v8 v9 v10 v11 v12 v13 v14 : Option V), st13 a pn r p (some (.int ((i : Nat) : Int))) (some (.int z)) (some (.str n)) (some (.int wt)) u8 u9 u10 u11 u12 u13 u14 none = st13 a pn r p v4 v5 v6 v7 v8 v9 v10 v11 v12 v13 v14 none ∧ Ex H2 H' ∧ H2 d = none ∧ DeskAt C H' p d r (runC r pl).1 (runC r pl).2.1 (runC r pl).2.2 ∧ okX nm pl ∧ pl.length = i + 1 :=
          fun e => ⟨d7, pl ++ [(n, wt)], _, _, _, _, _, _, _, _, _, _, _, rfl, ex7.trans e, nd7, D7.ex e, po7, pl7⟩
        generalize (runC r (pl ++ [(n, wt)])).1 = c at D7 Te B7
        generalize (runC r (pl ++ [(n, wt)])).2.1 = g at D7 Te B7
        generalize (runC r (pl ++ [(n, wt)])).2.2 = t at D7 Te B7 t7
        have hs := sum_perm (sortC_perm c)
        have Go := Te.good okn D7.nd D7.ln r1 r2 hs
        have scl := sortC_len c
        have l50 := D7.len
        have hG := Go.hd
        have B8 : sumC (sortC c) + (r + 1) * g = t := by rw [hs]; exact B7
        have rm : r ≤ mostN := by have h : (50 : Int) ≤ mostN := by decide
                                  omega
        have smx : ∀ e ∈ sortC c, isName e.1 = true ∧ 0 ≤ e.2 ∧ e.2 ≤ mostN := fun e he => ⟨Go.nm e he, by have := Go.lo e he; omega, Go.hi e he⟩
        have tl := text_len (by omega) rm Go.g0 Go.g1 Go.t0 Go.t1 (r := r) (sortC c) smx
        have nl1 : ("\n" : Str).length = 1 := by decide +kernel
        have hrl : (rowsT r (sortC c) g t).length = (sortC c).length + 1 := by unfold rowsT; rw [List.length_cons, List.length_map]
        have hrow : ∀ x ∈ rowsT r (sortC c) g t, x.length ≤ 250 := fun x hx => by
          rcases List.mem_cons.mp hx with rfl | hx
          · exact head_len (by omega) rm Go.g0 Go.g1 Go.t0 Go.t1 (r := r)
          · obtain ⟨e, he, rfl⟩ := List.mem_map.mp hx
            have := row_len (smx e he).1 (smx e he).2.1 (smx e he).2.2
            omega
        have Nu : Nums r c g t := ⟨fun e he => okn _ (Te.nm _ (List.mem_map.mpr ⟨e, he, rfl⟩)), fun e he => by have := Te.pc e he; omega, Te.v1 r1, Te.g0, Te.g1 r1, (Te.rg r1).2.2, Te.t1⟩
        generalize hsc : sortC c = sc at Go B8 tl hrl hrow scl smx
        have zrow : (rowsT r sc g t).length ≤ 60 := by omega
        have sizeT : (textT r sc g t).length ≤ 4400 := by omega
        -- written
        refine sq_any (fun σ' H' => σ' = st13 a pn r p (some (.int ((i : Nat) : Int))) (some (.int z)) (some (.str n)) (some (.int wt)) (some (.str (textT r sc g t))) v9 v10 v11 v12 v13 v14 none ∧ Ex H7 H') (fun D' hD => ⟨_, rfl, p, d7, r, c, g, t, rfl, D7, Nu, fun H' ex => hD _ _ ⟨by rw [hsc]; rfl, ex⟩⟩) ?_
        rintro σ' H8 ⟨rfl, ex8⟩
        -- rows
        refine sq_any (fun σ' H' => ∃ lr : Addr, σ' = st13 a pn r p (some (.int ((i : Nat) : Int))) (some (.int z)) (some (.str n)) (some (.int wt)) (some (.str (textT r sc g t))) (some (.ref lr)) v10 v11 v12 v13 v14 none ∧ Ex H7 H' ∧ H' lr = some (.lst ((rowsT r sc g t).map V.str)))
          (fun D' hD => set_of_lst (lst_init (K := K) (zs := rowsT r sc g t ++ [("" : Str)]) ((lst_split (z := textT r sc g t) (y := "\n") (val_pv rfl) val_c (by decide +kernel) (big _ (by omega))).to (by rw [split_text Go])) val_neg1) fun H' l e el => hD _ _ ⟨l, rfl, ex8.trans e, by rw [List.dropLast_concat] at el; exact el⟩) ?_
        rintro σ' H9 ⟨lr, rfl, ex9, er⟩
        -- the mark
        refine sq_any (fun σ' H' => ∃ m : Int, σ' = st13 a pn r p (some (.int ((i : Nat) : Int))) (some (.int z)) (some (.str n)) (some (.int wt)) (some (.str (textT r sc g t))) (some (.ref lr)) (some (.int m)) v11 v12 v13 v14 none ∧ 0 ≤ m ∧ H9 = H') (fun D' hD => ⟨_, rfl, _, rfl, _, _, rfl, rfl, _, _, rfl, fun m m0 _ => hD _ _ ⟨m, rfl, m0, rfl⟩⟩) ?_
        rintro σ' _ ⟨m, rfl, m0, rfl⟩
        have L : ∀ {σ : L2.St} {H' : Hp}, Ex H9 H' → σ[9]? = some (some (.ref lr)) → Lst σ H' (tVar 9) ((rowsT r sc g t).map V.str) := fun e h => lst_pv h (e _ _ er)
        have LN : ∀ {σ : L2.St} {H' : Hp}, Ex H9 H' → σ[9]? = some (some (.ref lr)) → Val σ H' (tCB (fun ys H Q => ∃ p zs, ys = [.ref p] ∧ (SqL K H p zs ∨ SqT K H p zs) ∧ Q (.int zs.length) H) (tCons (tVar 9) tNil)) (.int ((rowsT r sc g t).length : Int)) := fun e h => (val_len (L e h)).to (by rw [List.length_map])
        -- a fault
        refine sq_any (fun σ' H' => ∃ u11 u12 : Option V, σ' = st13 a pn r p (some (.int ((i : Nat) : Int))) (some (.int z)) (some (.str n)) (some (.int wt)) (some (.str (textT r sc g t))) (some (.ref lr)) (some (.int m)) u11 u12 v13 v14 none ∧ Ex H9 H') (fun D' hD => rd_if (val_eq (val_mod (val_pv rfl) val_c (by decide)) val_c rfl) (fun _ H' e => ?_) (fun _ H' e => hD _ _ ⟨_, _, rfl, e⟩)) ?_
        · have hpos : (0 : Int) < ((rowsT r sc g t).length : Int) := by omega
          obtain ⟨k, hk⟩ := nat_of (Int.emod_nonneg (m / 19) (show ((rowsT r sc g t).length : Int) ≠ 0 by omega))
          have hk2 := Int.emod_lt_of_pos (m / 19) hpos
          obtain ⟨way, hw⟩ := nat_of (Int.emod_nonneg m (show (19 : Int) ≠ 0 by decide))
          have hw2 := Int.emod_lt_of_pos m (show (0 : Int) < 19 by decide)
          rw [hk] at hk2
          rw [hw] at hw2
          have kl : k < (rowsT r sc g t).length := by omega
          have wl : way < 19 := by omega
          have ssz := spoilt_size (rows := rowsT r sc g t) (k := k) (way := way) (long := "abcdefghi") hrow zrow (by decide +kernel)
          have told := spoilt_told Go kl wl
          have sj := join_len "\n" (spoilt (rowsT r sc g t) k way "abcdefghi").1
          rw [nl1, Nat.mul_one] at sj
          refine sq_any (fun σ' H2 => ∃ l : Addr, σ' = st13 a pn r p (some (.int ((i : Nat) : Int))) (some (.int z)) (some (.str n)) (some (.int wt)) (some (.str (textT r sc g t))) (some (.ref lr)) (some (.int m)) (some (.ref l)) (some (.int (spoilt (rowsT r sc g t) k way "abcdefghi").2)) v13 v14 none ∧ Ex H' H2 ∧ H2 l = some (.lst ((spoilt (rowsT r sc g t) k way "abcdefghi").1.map V.str))) (fun D2 hD2 => ?_) ?_
          · refine call_of_vls (vs := [.ref lr, .int (k : Int), .int (way : Int), .str "abcdefghi"]) (vls_cons (v := .ref lr) (val_pv rfl) (vls_cons (v := .int (k : Int)) ((val_mod (val_fdiv (val_pv rfl) val_c ⟨by decide, by decide⟩) (LN e rfl) hpos).to (congrArg V.int hk)) (vls_cons (v := .int (way : Int)) ((val_mod (val_pv rfl) val_c (by decide)).to (congrArg V.int hw)) (vls_cons (v := .str "abcdefghi") val_c vls_nil)))) fun H3 e3 => ?_
            exact ⟨lr, rowsT r sc g t, k, way, "abcdefghi", rfl, e3 _ _ (e _ _ er), kl, wl, by omega, fun x hx => by have := hrow x hx; omega, by decide +kernel, fun H4 l tp ex el et => ⟨tp, _, rfl, SqT.of et, rfl, _, _, rfl, _, _, rfl, rfl, hD2 _ _ ⟨l, rfl, e3.trans ex, el⟩⟩⟩
          rintro σ' H3 ⟨l, rfl, e3, el⟩
          refine rd_if (b := false) (val_same ((val_told (z := Txt.join "\n" (spoilt (rowsT r sc g t) k way "abcdefghi").1 ++ "\n") (val_addS (val_join val_c (lst_pv rfl el) ?_) val_c (big _ (by rw [nl1]; have := ssz.1; omega))) (by rw [str_len_app, nl1]; have := ssz.1; omega)).to (congrArg V.int told)) (val_pv rfl)) (fun h => nomatch h) (fun _ H4 e4 => hD _ _ ⟨_, _, rfl, (e.trans e3).trans e4⟩)
          rw [nl1, Nat.mul_one]
          have := ssz.1
          omega
        rintro σ' H10 ⟨u11, u12, rfl, ex10⟩
        have D10 := (D7.ex ex9).ex ex10
        -- all weight one less, no last line end, another sign
        refine sq_any (fun σ' H' => ∃ u13 u14 : Option V, σ' = st13 a pn r p (some (.int ((i : Nat) : Int))) (some (.int z)) (some (.str n)) (some (.int wt)) (some (.str (textT r sc g t))) (some (.ref lr)) (some (.int m)) u11 u12 u13 u14 none ∧ Ex H9 H') (fun D' hD => rd_if (val_eq (val_mod (val_pv rfl) val_c (by decide)) val_c rfl) (fun _ H' e => ?_) (fun _ H' e => hD _ _ ⟨_, _, rfl, ex10.trans e⟩)) ?_
        · have eA := ex10.trans e
          have hl250 := head_len (by omega) rm Go.g0 Go.g1 Go.t0 Go.t1 (r := r)
          have hw : HdOk r g (t - 1) := ⟨Go.r1, Go.r2, Go.g0, Go.g1, by omega, by have := Go.t1; omega⟩
          have hl250' := head_len (by omega) rm Go.g0 Go.g1 hw.t0 hw.t1 (r := r)
          have xl : ("x" : Str).length = 1 := by decide +kernel
          have tj : textT r sc g t = Txt.join "\n" (rowsT r sc g t) ++ "\n" := text_join r sc g t
          have jl : (Txt.join "\n" (rowsT r sc g t)).length ≤ 4400 := by
            have := congrArg Str.length tj
            rw [str_len_app, nl1] at this
            omega
          -- the first row's words
          refine sq_any (fun σ' H2 => ∃ lm : Addr, σ' = st13 a pn r p (some (.int ((i : Nat) : Int))) (some (.int z)) (some (.str n)) (some (.int wt)) (some (.str (textT r sc g t))) (some (.ref lr)) (some (.int m)) u11 u12 (some (.ref lm)) v14 none ∧ Ex H' H2 ∧ H2 lm = some (.lst ([("desk" : Str), numS r, numS g, numS t].map V.str)))
            (fun D2 hD2 => set_of_lst ((lst_split (z := headT r g t) (y := " ") (val_pick (j := 0) (L eA rfl) val_c rfl) val_c (by decide +kernel) (big _ (by omega))).to (by rw [split_head (by omega) Go.g0 Go.t0])) fun H2 l e2 el => hD2 _ _ ⟨l, rfl, e2, el⟩) ?_
          rintro σ' H2 ⟨lm, rfl, eB, em⟩
          -- all weight one less
          refine sq_any (fun σ' H3 => σ' = st13 a pn r p (some (.int ((i : Nat) : Int))) (some (.int z)) (some (.str n)) (some (.int wt)) (some (.str (textT r sc g t))) (some (.ref lr)) (some (.int m)) u11 u12 (some (.ref lm)) (some (.str (headT r g (t - 1)))) none ∧ Ex H2 H3) (fun D2 hD2 => set_of_val (v := .str (headT r g (t - 1)))
            (val_join (zs := [("desk" : Str), numS r, numS g] ++ [numS (t - 1)]) val_c (lstS_cat (lst_to (k := 3) (lst_pv rfl em) val_c) (lstS_one (val_strI (val_sub (a := t) (b := 1) (fun H3 e3 Q q => rd_num (by decide +kernel) rfl (((D10.ex e).ex eB).ex e3) (q H3 (Ex.refl _))) val_c) (log_most hw.t0 hw.t1))) (by show 3 + 1 ≤ _; decide)) ?_) fun H3 e3 => hD2 _ _ ⟨rfl, e3⟩) ?_
          · have a1 := num_len_le (by omega) rm (i := r)
            have a2 := num_len_le Go.g0 Go.g1
            have a3 := num_len_le hw.t0 hw.t1
            have a4 : ("desk" : Str).length = 4 := by decide +kernel
            have a5 : (" " : Str).length = 1 := by decide +kernel
            show ("desk" : Str).length + ((numS r).length + ((numS g).length + ((numS (t - 1)).length + 0))) + 4 * (" " : Str).length ≤ 16777216
            omega
          rintro σ' H3 ⟨rfl, eC⟩
          have eD := (eA.trans eB).trans eC
          have hrow' : ∀ x ∈ headT r g (t - 1) :: sc.map rowT, x.length ≤ 250 := fun x hx => by
            rcases List.mem_cons.mp hx with rfl | hx
            · exact hl250'
            · exact hrow x (List.mem_cons_of_mem _ hx)
          have hs' := sum_len_le hrow'
          have hl' : (headT r g (t - 1) :: sc.map rowT).length = sc.length + 1 := by rw [List.length_cons, List.length_map]
          have hm' : (headT r g (t - 1) :: sc.map rowT).length * 250 ≤ 51 * 250 := Nat.mul_le_mul_right _ (by omega)
          have hj' := join_len "\n" (headT r g (t - 1) :: sc.map rowT)
          rw [nl1, Nat.mul_one] at hj'
          refine sq_no (val_same ((val_told (z := Txt.join "\n" (headT r g (t - 1) :: sc.map rowT) ++ "\n") (val_addS (val_join (zs := [headT r g (t - 1)] ++ (rowsT r sc g t).drop 1) val_c (lstS_cat (lstS_one (val_pv rfl)) (lst_from (k := 1) (L eD rfl) val_c) (by show 1 + (sc.map rowT).length ≤ _; rw [List.length_map]; omega)) ?_) val_c (big _ ?_)) ?_).to (congrArg V.int (told_high Go t7 B8))) (LN eD rfl)) fun H4 e4 => ?_
          · show ((headT r g (t - 1) :: sc.map rowT).map (·.length)).sum + (headT r g (t - 1) :: sc.map rowT).length * ("\n" : Str).length ≤ _
            rw [nl1]
            omega
          · show (Txt.join "\n" (headT r g (t - 1) :: sc.map rowT)).length + ("\n" : Str).length ≤ _
            rw [nl1]
            omega
          · rw [str_len_app, nl1]
            omega
          have eE := eD.trans e4
          have cutT : ∀ {H' : Hp}, Ex H9 H' → Val (st13 a pn r p (some (.int ((i : Nat) : Int))) (some (.int z)) (some (.str n)) (some (.int wt)) (some (.str (textT r sc g t))) (some (.ref lr)) (some (.int m)) u11 u12 (some (.ref lm)) (some (.str (headT r g (t - 1)))) none) H' (tSl rSlS (tVar 8) tNoPart (tPart (tUn (rU fun i => .int (-i)) (tC (.int 1))))) (.str (Txt.join "\n" (rowsT r sc g t))) := fun _ =>
            val_initT (val_pv (by rw [← tj]; rfl)) val_neg1 (by rw [← tj]; exact big _ (by omega))
          -- no last line end
          refine sq_if (fun H' => Ex H9 H') (fun Q' hQ => rd_test (val_same ((val_told (cutT eE) (by omega)).to (congrArg V.int (told_noend Go))) (LN eE rfl)) fun H5 e5 => iteF (rd_test (val_same ((val_told (val_pv rfl) (by omega)).to (congrArg V.int (told_text Go))) val_neg1) fun H6 e6 => hQ _ ((eE.trans e5).trans e6))) fun H5 eF => ?_
          -- another sign
          exact rd_if (b := false) (val_same ((val_told (val_addS (cutT eF) val_c (big _ (by omega))) (by rw [str_len_app]; omega)).to (congrArg V.int (told_x Go))) (val_sub (LN eF rfl) val_c)) (fun h => nomatch h) fun _ H6 e6 => hD _ _ ⟨_, _, rfl, eF.trans e6⟩
        rintro σ' H11 ⟨u13, u14, rfl, ex11⟩
        -- a name more than drawers
        refine rd_test (val_eq (LN ex11 rfl) (val_add (val_pv rfl) val_c) rfl) fun H12 ex12 => ?_
        have ex12' := ex11.trans ex12
        obtain ⟨ini, x, hx⟩ : ∃ ini x, rowsT r sc g t = ini ++ [x] := ⟨(rowsT r sc g t).dropLast, (rowsT r sc g t).getLast (by unfold rowsT; simp), (List.dropLast_concat_getLast (by unfold rowsT; simp)).symm⟩
        have xl : x.length ≤ 250 := hrow x (by rw [hx]; exact List.mem_append_right _ (List.mem_singleton.mpr rfl))
        cases hb : decide (V.int ((rowsT r sc g t).length : Int) = V.int (r + 1)) with
        | false => exact iteF (done (ex9.trans ex12'))
        | true =>
          have hfull : (sc.length : Int) = r := by
            have := V.int.inj (of_decide_eq_true hb)
            omega
          refine iteT ?_
          refine rd_test (val_ne (val_toT (k := 2) (val_last (x := x) (zs := ini) ((L ex12' rfl).to (by rw [hx])) val_neg1) val_c (big _ (by omega))) val_c rfl) fun H13 ex13 => ?_
          have ex13' := ex12'.trans ex13
          have zl : ("zzzzzzzz 1\n" : Str).length = 11 := by decide +kernel
          generalize (!decide (V.str (cutS x none (some 2)) = V.str "zz")) = b2
          cases b2 with
          | false => exact iteF (done (ex9.trans ex13'))
          | true =>
            refine iteT ?_
            exact rd_if (b := false) (val_same ((val_told (z := textT r sc g t ++ "zzzzzzzz 1\n") (val_addS (val_pv rfl) val_c (big _ (by omega))) (by rw [str_len_app]; omega)).to (congrArg V.int (told_zz Go hfull))) (LN ex13' rfl)) (fun h => nomatch h) fun _ H14 e14 => done (ex9.trans (ex13'.trans e14))
      · rintro σ H4 ⟨d, pl, v4, v5, v6, v7, v8, v9, v10, v11, v12, v13, v14, rfl, ex, nd, D, po, pl'⟩
        exact hD _ _ ⟨_, _, _, _, _, _, _, _, _, _, _, rfl, ex⟩
    rintro σ' H4 ⟨v4, v5, v6, v7, v8, v9, v10, v11, v12, v13, v14, rfl, ex4⟩
    have lo : ("1" : Str).length = 1 := by decide +kernel
    have lz : (PySem.Txt.mul "0" 69).length = 69 := by decide +kernel
    have lh : ("desk 1 0 " : Str).length = 9 := by decide +kernel
    have ln : ("\n" : Str).length = 1 := by decide +kernel
    have l0 : ("0\n" : Str).length = 2 := by decide +kernel
    have l1 : ("1\n" : Str).length = 2 := by decide +kernel
    have lg : great69.length = 70 := by decide +kernel
    have l5 : (PySem.Txt.mul "1" 5000).length = 5000 := by rw [cs_len, ones_cs, List.length_replicate]
    -- the great one
    refine sq_any (fun σ' H' => σ' = st13 a pn r p v4 v5 v6 v7 v8 v9 v10 v11 v12 v13 v14 (some (.str great69)) ∧ Ex H4 H') (fun D' hD => set_of_val (v := .str great69) (val_addS (a := "1") (b := PySem.Txt.mul "0" 69) val_c (val_mulS val_c val_c ⟨by decide, fun _ _ => by decide +kernel, fun _ _ => by decide +kernel⟩) (big _ (by omega))) fun H' e => hD _ _ ⟨rfl, e⟩) ?_
    rintro σ' H5 ⟨rfl, ex5⟩
    refine sq_no (val_same ((val_told (z := "desk 1 0 " ++ PySem.Txt.mul "1" 5000 ++ "\n") (val_addS (val_addS val_c (val_mulS val_c val_c ⟨by decide, fun _ _ => by decide +kernel, fun _ _ => by decide +kernel⟩) (big _ (by omega))) val_c (big _ (by rw [str_len_app]; omega))) (by rw [str_len_app, str_len_app]; omega)).to (congrArg V.int told_ones)) val_c) fun H6 ex6 => ?_
    have vg : ∀ {H' : Hp} (x : Str), x.length = 2 → Val (st13 a pn r p v4 v5 v6 v7 v8 v9 v10 v11 v12 v13 v14 (some (.str great69))) H' (tCall spTold13 [] E0 (tCons (tOp (fun x y H Q => ∃ i j, x = .str i ∧ y = .str j ∧ i.length + j.length ≤ sizeLine ∧ Q (.str (i ++ j)) H) (tOp (fun x y H Q => ∃ i j, x = .str i ∧ y = .str j ∧ i.length + j.length ≤ sizeLine ∧ Q (.str (i ++ j)) H) (tC (.str "desk 1 0 ")) (tVar 15)) (tC (.str x))) tNil)) (.int (toldT ("desk 1 0 " ++ great69 ++ x))) := fun x hx =>
      val_told (val_addS (val_addS val_c (val_pv rfl) (big _ (by omega))) val_c (big _ (by rw [str_len_app]; omega))) (by rw [str_len_app, str_len_app]; omega)
    refine sq_if (fun _ => True) (fun Q' hQ => rd_test (val_same ((vg "0\n" l0).to (congrArg V.int told_g0)) val_neg1) fun H7 e7 => iteF (rd_test (val_same ((vg "1\n" l1).to (congrArg V.int told_g1)) val_c) fun H8 e8 => hQ _ trivial)) fun H7 _ => ?_
    have vt : ∀ {σ : L2.St} {H' : Hp} (x : Str) (n : Int), x.length ≤ 100 → toldT x = n → Val σ H' (tCall spTold13 [] E0 (tCons (tC (.str x)) tNil)) (.int n) := fun x n hx hn => (val_told val_c (by omega)).to (congrArg V.int hn)
    refine val_alike (vt "" 0 (by decide +kernel) told_none) val_c H7 (Ex.refl _) _ fun H8 e8 => ⟨true, rfl, iteT ?_⟩
    refine val_alike (vt "\n" 0 (by decide +kernel) told_nl) val_c H8 (Ex.refl _) _ fun H9 e9 => ⟨true, rfl, iteT ?_⟩
    exact val_alike (vt "desk 1 0 0\n" (-1) (by decide +kernel) told_least) val_neg1 H9 (Ex.refl _) _ fun H10 e10 => q H10
end
/-! ### what the top has written, each a fact that k_is finds, and the law over it -/
theorem all_mk {l : PySem.W.OpenLaw} {w : World} {K : PySem.W.Frag} {h : Heap} {mg : Str → Option Value} {fa C fIsWhole fIsName fNeedComing fNeedDrawers fLowered fDCome fDShown fDLost fDWeight fDDrawers fDLeast fDMost fDeskOf fWritten fNumberOf fHeadOf fPairOf fNoTextInit fRead fLMixed fLNames fLDrawers fLComing fLTold fLSpoilt fDInit fLaw CN CW CD CQ CP CT CE tD : Addr} (X : K.In h) (G : h.Ns mainGlobals mg) (hfa : mg "law" = some (.ref fa))
    {odIsWhole anIsWhole odIsName anIsName odNeedComing anNeedComing odNeedDrawers anNeedDrawers odLowered anLowered odDCome anDCome odDShown anDShown odDLost anDLost odDWeight anDWeight odDDrawers anDDrawers odDLeast anDLeast odDMost anDMost odDeskOf anDeskOf odWritten anWritten odNumberOf anNumberOf odHeadOf anHeadOf odPairOf anPairOf odNoTextInit anNoTextInit odRead anRead odLMixed anLMixed odLNames anLNames odLDrawers anLDrawers odLComing anLComing odLTold anLTold odLSpoilt anLSpoilt odDInit anDInit odLaw anLaw odT : Option Addr} {slIsWhole slIsName slNeedComing slNeedDrawers slLowered slDCome slDShown slDLost slDWeight slDDrawers slDLeast slDMost slDeskOf slWritten slNumberOf slHeadOf slPairOf slNoTextInit slRead slLMixed slLNames slLDrawers slLComing slLTold slLSpoilt slDInit slLaw slT : Array (Option Value)} {ocIsWhole kVIsWhole dcIsWhole pmIsWhole cdIsWhole ctIsWhole ocIsName kVIsName dcIsName pmIsName cdIsName ctIsName ocNeedComing kVNeedComing dcNeedComing pmNeedComing cdNeedComing ctNeedComing ocNeedDrawers kVNeedDrawers dcNeedDrawers pmNeedDrawers cdNeedDrawers ctNeedDrawers ocLowered kVLowered dcLowered pmLowered cdLowered ctLowered ocDCome kVDCome dcDCome pmDCome cdDCome ctDCome ocDShown kVDShown dcDShown pmDShown cdDShown ctDShown ocDLost kVDLost dcDLost pmDLost cdDLost ctDLost ocDWeight kVDWeight dcDWeight pmDWeight cdDWeight ctDWeight ocDDrawers kVDDrawers dcDDrawers pmDDrawers cdDDrawers ctDDrawers ocDLeast kVDLeast dcDLeast pmDLeast cdDLeast ctDLeast ocDMost kVDMost dcDMost pmDMost cdDMost ctDMost ocDeskOf kVDeskOf dcDeskOf pmDeskOf cdDeskOf ctDeskOf ocWritten kVWritten dcWritten pmWritten cdWritten ctWritten ocNumberOf kVNumberOf dcNumberOf pmNumberOf cdNumberOf ctNumberOf ocHeadOf kVHeadOf dcHeadOf pmHeadOf cdHeadOf ctHeadOf ocPairOf kVPairOf dcPairOf pmPairOf cdPairOf ctPairOf ocNoTextInit kVNoTextInit dcNoTextInit pmNoTextInit cdNoTextInit ctNoTextInit ocRead kVRead dcRead pmRead cdRead ctRead ocLMixed kVLMixed dcLMixed pmLMixed cdLMixed ctLMixed ocLNames kVLNames dcLNames pmLNames cdLNames ctLNames ocLDrawers kVLDrawers dcLDrawers pmLDrawers cdLDrawers ctLDrawers ocLComing kVLComing dcLComing pmLComing cdLComing ctLComing ocLTold kVLTold dcLTold pmLTold cdLTold ctLTold ocLSpoilt kVLSpoilt dcLSpoilt pmLSpoilt cdLSpoilt ctLSpoilt ocDInit kVDInit dcDInit pmDInit cdDInit ctDInit ocLaw kVLaw dcLaw pmLaw cdLaw ctLaw ocT : Value} {t8 tL tG tM tT tFi tMN : Tok} {nT : Nat} {nmT qT : Str} {NT : Addr} {bsT bmT subT : List Value} {snT : List Str} {abT : Bool} {colT : Option Bool} {ddT : Option Addr} {k0T k1T k2T k3T k5T : Option Value}
    (aC : PySem.W.nsIn K mainGlobals "Desk" = some (some (.ref C)))
    (aCT : PySem.W.nsIn K mainGlobals "NoText" = some (some (.ref CT)))
    (aIsWhole : PySem.W.nsIn K mainGlobals "is_whole" = some (some (.ref fIsWhole)))
    (lIsWhole : K.lookup fIsWhole = some ⟨ocIsWhole, odIsWhole, .func (PySem.W.fnOf "is_whole" "is_whole" (defArgs sIsWhole) (defBody sIsWhole) (defScope sIsWhole) .none kVIsWhole dcIsWhole pmIsWhole anIsWhole cdIsWhole ctIsWhole), slIsWhole⟩)
    (cIsWhole : PySem.W.codeIn K cdIsWhole "is_whole" = true)
    (kIsWhole : PySem.W.keepIn K (.ref fIsWhole) = true)
    (aIsName : PySem.W.nsIn K mainGlobals "is_name" = some (some (.ref fIsName)))
    (lIsName : K.lookup fIsName = some ⟨ocIsName, odIsName, .func (PySem.W.fnOf "is_name" "is_name" (defArgs sIsName) (defBody sIsName) (defScope sIsName) .none kVIsName dcIsName pmIsName anIsName cdIsName ctIsName), slIsName⟩)
    (cIsName : PySem.W.codeIn K cdIsName "is_name" = true)
    (kIsName : PySem.W.keepIn K (.ref fIsName) = true)
    (aNeedComing : PySem.W.nsIn K mainGlobals "need_coming" = some (some (.ref fNeedComing)))
    (lNeedComing : K.lookup fNeedComing = some ⟨ocNeedComing, odNeedComing, .func (PySem.W.fnOf "need_coming" "need_coming" (defArgs sNeedComing) (defBody sNeedComing) (defScope sNeedComing) .none kVNeedComing dcNeedComing pmNeedComing anNeedComing cdNeedComing ctNeedComing), slNeedComing⟩)
    (cNeedComing : PySem.W.codeIn K cdNeedComing "need_coming" = true)
    (kNeedComing : PySem.W.keepIn K (.ref fNeedComing) = true)
    (aNeedDrawers : PySem.W.nsIn K mainGlobals "need_drawers" = some (some (.ref fNeedDrawers)))
    (lNeedDrawers : K.lookup fNeedDrawers = some ⟨ocNeedDrawers, odNeedDrawers, .func (PySem.W.fnOf "need_drawers" "need_drawers" (defArgs sNeedDrawers) (defBody sNeedDrawers) (defScope sNeedDrawers) .none kVNeedDrawers dcNeedDrawers pmNeedDrawers anNeedDrawers cdNeedDrawers ctNeedDrawers), slNeedDrawers⟩)
    (cNeedDrawers : PySem.W.codeIn K cdNeedDrawers "need_drawers" = true)
    (kNeedDrawers : PySem.W.keepIn K (.ref fNeedDrawers) = true)
    (aLowered : PySem.W.nsIn K mainGlobals "lowered" = some (some (.ref fLowered)))
    (lLowered : K.lookup fLowered = some ⟨ocLowered, odLowered, .func (PySem.W.fnOf "lowered" "lowered" (defArgs sLowered) (defBody sLowered) (defScope sLowered) .none kVLowered dcLowered pmLowered anLowered cdLowered ctLowered), slLowered⟩)
    (cLowered : PySem.W.codeIn K cdLowered "lowered" = true)
    (kLowered : PySem.W.keepIn K (.ref fLowered) = true)
    (aDCome : PySem.W.findIn K (.ref C) "come" = some (some (.ref fDCome)))
    (iDCome : PySem.W.isFn K (.ref fDCome) = true)
    (lDCome : K.lookup fDCome = some ⟨ocDCome, odDCome, .func (PySem.W.fnOf "come" "Desk.come" (defArgs sDCome) (defBody sDCome) (defScope sDCome) (.ref tD) kVDCome dcDCome pmDCome anDCome cdDCome ctDCome), slDCome⟩)
    (cDCome : PySem.W.codeIn K cdDCome "Desk.come" = true)
    (kDCome : PySem.W.keepIn K (.ref fDCome) = true)
    (aDShown : PySem.W.findIn K (.ref C) "shown" = some (some (.ref fDShown)))
    (iDShown : PySem.W.isFn K (.ref fDShown) = true)
    (lDShown : K.lookup fDShown = some ⟨ocDShown, odDShown, .func (PySem.W.fnOf "shown" "Desk.shown" (defArgs sDShown) (defBody sDShown) (defScope sDShown) .none kVDShown dcDShown pmDShown anDShown cdDShown ctDShown), slDShown⟩)
    (cDShown : PySem.W.codeIn K cdDShown "Desk.shown" = true)
    (kDShown : PySem.W.keepIn K (.ref fDShown) = true)
    (aDLost : PySem.W.findIn K (.ref C) "lost" = some (some (.ref fDLost)))
    (iDLost : PySem.W.isFn K (.ref fDLost) = true)
    (lDLost : K.lookup fDLost = some ⟨ocDLost, odDLost, .func (PySem.W.fnOf "lost" "Desk.lost" (defArgs sDLost) (defBody sDLost) (defScope sDLost) .none kVDLost dcDLost pmDLost anDLost cdDLost ctDLost), slDLost⟩)
    (cDLost : PySem.W.codeIn K cdDLost "Desk.lost" = true)
    (kDLost : PySem.W.keepIn K (.ref fDLost) = true)
    (aDWeight : PySem.W.findIn K (.ref C) "weight" = some (some (.ref fDWeight)))
    (iDWeight : PySem.W.isFn K (.ref fDWeight) = true)
    (lDWeight : K.lookup fDWeight = some ⟨ocDWeight, odDWeight, .func (PySem.W.fnOf "weight" "Desk.weight" (defArgs sDWeight) (defBody sDWeight) (defScope sDWeight) .none kVDWeight dcDWeight pmDWeight anDWeight cdDWeight ctDWeight), slDWeight⟩)
    (cDWeight : PySem.W.codeIn K cdDWeight "Desk.weight" = true)
    (kDWeight : PySem.W.keepIn K (.ref fDWeight) = true)
    (aDDrawers : PySem.W.findIn K (.ref C) "drawers" = some (some (.ref fDDrawers)))
    (iDDrawers : PySem.W.isFn K (.ref fDDrawers) = true)
    (lDDrawers : K.lookup fDDrawers = some ⟨ocDDrawers, odDDrawers, .func (PySem.W.fnOf "drawers" "Desk.drawers" (defArgs sDDrawers) (defBody sDDrawers) (defScope sDDrawers) .none kVDDrawers dcDDrawers pmDDrawers anDDrawers cdDDrawers ctDDrawers), slDDrawers⟩)
    (cDDrawers : PySem.W.codeIn K cdDDrawers "Desk.drawers" = true)
    (kDDrawers : PySem.W.keepIn K (.ref fDDrawers) = true)
    (aDLeast : PySem.W.findIn K (.ref C) "least" = some (some (.ref fDLeast)))
    (iDLeast : PySem.W.isFn K (.ref fDLeast) = true)
    (lDLeast : K.lookup fDLeast = some ⟨ocDLeast, odDLeast, .func (PySem.W.fnOf "least" "Desk.least" (defArgs sDLeast) (defBody sDLeast) (defScope sDLeast) .none kVDLeast dcDLeast pmDLeast anDLeast cdDLeast ctDLeast), slDLeast⟩)
    (cDLeast : PySem.W.codeIn K cdDLeast "Desk.least" = true)
    (kDLeast : PySem.W.keepIn K (.ref fDLeast) = true)
    (aDMost : PySem.W.findIn K (.ref C) "most" = some (some (.ref fDMost)))
    (iDMost : PySem.W.isFn K (.ref fDMost) = true)
    (lDMost : K.lookup fDMost = some ⟨ocDMost, odDMost, .func (PySem.W.fnOf "most" "Desk.most" (defArgs sDMost) (defBody sDMost) (defScope sDMost) .none kVDMost dcDMost pmDMost anDMost cdDMost ctDMost), slDMost⟩)
    (cDMost : PySem.W.codeIn K cdDMost "Desk.most" = true)
    (kDMost : PySem.W.keepIn K (.ref fDMost) = true)
    (aDeskOf : PySem.W.nsIn K mainGlobals "desk_of" = some (some (.ref fDeskOf)))
    (lDeskOf : K.lookup fDeskOf = some ⟨ocDeskOf, odDeskOf, .func (PySem.W.fnOf "desk_of" "desk_of" (defArgs sDeskOf) (defBody sDeskOf) (defScope sDeskOf) .none kVDeskOf dcDeskOf pmDeskOf anDeskOf cdDeskOf ctDeskOf), slDeskOf⟩)
    (cDeskOf : PySem.W.codeIn K cdDeskOf "desk_of" = true)
    (kDeskOf : PySem.W.keepIn K (.ref fDeskOf) = true)
    (aWritten : PySem.W.nsIn K mainGlobals "written" = some (some (.ref fWritten)))
    (lWritten : K.lookup fWritten = some ⟨ocWritten, odWritten, .func (PySem.W.fnOf "written" "written" (defArgs sWritten) (defBody sWritten) (defScope sWritten) .none kVWritten dcWritten pmWritten anWritten cdWritten ctWritten), slWritten⟩)
    (cWritten : PySem.W.codeIn K cdWritten "written" = true)
    (kWritten : PySem.W.keepIn K (.ref fWritten) = true)
    (aNumberOf : PySem.W.nsIn K mainGlobals "number_of" = some (some (.ref fNumberOf)))
    (lNumberOf : K.lookup fNumberOf = some ⟨ocNumberOf, odNumberOf, .func (PySem.W.fnOf "number_of" "number_of" (defArgs sNumberOf) (defBody sNumberOf) (defScope sNumberOf) .none kVNumberOf dcNumberOf pmNumberOf anNumberOf cdNumberOf ctNumberOf), slNumberOf⟩)
    (cNumberOf : PySem.W.codeIn K cdNumberOf "number_of" = true)
    (kNumberOf : PySem.W.keepIn K (.ref fNumberOf) = true)
    (aHeadOf : PySem.W.nsIn K mainGlobals "head_of" = some (some (.ref fHeadOf)))
    (lHeadOf : K.lookup fHeadOf = some ⟨ocHeadOf, odHeadOf, .func (PySem.W.fnOf "head_of" "head_of" (defArgs sHeadOf) (defBody sHeadOf) (defScope sHeadOf) .none kVHeadOf dcHeadOf pmHeadOf anHeadOf cdHeadOf ctHeadOf), slHeadOf⟩)
    (cHeadOf : PySem.W.codeIn K cdHeadOf "head_of" = true)
    (kHeadOf : PySem.W.keepIn K (.ref fHeadOf) = true)
    (aPairOf : PySem.W.nsIn K mainGlobals "pair_of" = some (some (.ref fPairOf)))
    (lPairOf : K.lookup fPairOf = some ⟨ocPairOf, odPairOf, .func (PySem.W.fnOf "pair_of" "pair_of" (defArgs sPairOf) (defBody sPairOf) (defScope sPairOf) .none kVPairOf dcPairOf pmPairOf anPairOf cdPairOf ctPairOf), slPairOf⟩)
    (cPairOf : PySem.W.codeIn K cdPairOf "pair_of" = true)
    (kPairOf : PySem.W.keepIn K (.ref fPairOf) = true)
    (aNoTextInit : PySem.W.findIn K (.ref CT) "__init__" = some (some (.ref fNoTextInit)))
    (iNoTextInit : PySem.W.isFn K (.ref fNoTextInit) = true)
    (lNoTextInit : K.lookup fNoTextInit = some ⟨ocNoTextInit, odNoTextInit, .func (PySem.W.fnOf "__init__" "NoText.__init__" (defArgs sNoTextInit) (defBody sNoTextInit) (defScope sNoTextInit) .none kVNoTextInit dcNoTextInit pmNoTextInit anNoTextInit cdNoTextInit ctNoTextInit), slNoTextInit⟩)
    (cNoTextInit : PySem.W.codeIn K cdNoTextInit "NoText.__init__" = true)
    (kNoTextInit : PySem.W.keepIn K (.ref fNoTextInit) = true)
    (aRead : PySem.W.nsIn K mainGlobals "read" = some (some (.ref fRead)))
    (lRead : K.lookup fRead = some ⟨ocRead, odRead, .func (PySem.W.fnOf "read" "read" (defArgs sRead) (defBody sRead) (defScope sRead) .none kVRead dcRead pmRead anRead cdRead ctRead), slRead⟩)
    (cRead : PySem.W.codeIn K cdRead "read" = true)
    (kRead : PySem.W.keepIn K (.ref fRead) = true)
    (aLMixed : PySem.W.nsIn K mainGlobals "_law_mixed" = some (some (.ref fLMixed)))
    (lLMixed : K.lookup fLMixed = some ⟨ocLMixed, odLMixed, .func (PySem.W.fnOf "_law_mixed" "_law_mixed" (defArgs sLMixed) (defBody sLMixed) (defScope sLMixed) .none kVLMixed dcLMixed pmLMixed anLMixed cdLMixed ctLMixed), slLMixed⟩)
    (cLMixed : PySem.W.codeIn K cdLMixed "_law_mixed" = true)
    (kLMixed : PySem.W.keepIn K (.ref fLMixed) = true)
    (aLNames : PySem.W.nsIn K mainGlobals "_law_names" = some (some (.ref fLNames)))
    (lLNames : K.lookup fLNames = some ⟨ocLNames, odLNames, .func (PySem.W.fnOf "_law_names" "_law_names" (defArgs sLNames) (defBody sLNames) (defScope sLNames) .none kVLNames dcLNames pmLNames anLNames cdLNames ctLNames), slLNames⟩)
    (cLNames : PySem.W.codeIn K cdLNames "_law_names" = true)
    (kLNames : PySem.W.keepIn K (.ref fLNames) = true)
    (aLDrawers : PySem.W.nsIn K mainGlobals "_law_drawers" = some (some (.ref fLDrawers)))
    (lLDrawers : K.lookup fLDrawers = some ⟨ocLDrawers, odLDrawers, .func (PySem.W.fnOf "_law_drawers" "_law_drawers" (defArgs sLDrawers) (defBody sLDrawers) (defScope sLDrawers) .none kVLDrawers dcLDrawers pmLDrawers anLDrawers cdLDrawers ctLDrawers), slLDrawers⟩)
    (cLDrawers : PySem.W.codeIn K cdLDrawers "_law_drawers" = true)
    (kLDrawers : PySem.W.keepIn K (.ref fLDrawers) = true)
    (aLComing : PySem.W.nsIn K mainGlobals "_law_coming" = some (some (.ref fLComing)))
    (lLComing : K.lookup fLComing = some ⟨ocLComing, odLComing, .func (PySem.W.fnOf "_law_coming" "_law_coming" (defArgs sLComing) (defBody sLComing) (defScope sLComing) .none kVLComing dcLComing pmLComing anLComing cdLComing ctLComing), slLComing⟩)
    (cLComing : PySem.W.codeIn K cdLComing "_law_coming" = true)
    (kLComing : PySem.W.keepIn K (.ref fLComing) = true)
    (aLTold : PySem.W.nsIn K mainGlobals "_law_told" = some (some (.ref fLTold)))
    (lLTold : K.lookup fLTold = some ⟨ocLTold, odLTold, .func (PySem.W.fnOf "_law_told" "_law_told" (defArgs sLTold) (defBody sLTold) (defScope sLTold) .none kVLTold dcLTold pmLTold anLTold cdLTold ctLTold), slLTold⟩)
    (cLTold : PySem.W.codeIn K cdLTold "_law_told" = true)
    (kLTold : PySem.W.keepIn K (.ref fLTold) = true)
    (aLSpoilt : PySem.W.nsIn K mainGlobals "_law_spoilt" = some (some (.ref fLSpoilt)))
    (lLSpoilt : K.lookup fLSpoilt = some ⟨ocLSpoilt, odLSpoilt, .func (PySem.W.fnOf "_law_spoilt" "_law_spoilt" (defArgs sLSpoilt) (defBody sLSpoilt) (defScope sLSpoilt) .none kVLSpoilt dcLSpoilt pmLSpoilt anLSpoilt cdLSpoilt ctLSpoilt), slLSpoilt⟩)
    (cLSpoilt : PySem.W.codeIn K cdLSpoilt "_law_spoilt" = true)
    (kLSpoilt : PySem.W.keepIn K (.ref fLSpoilt) = true)
    (aDInit : PySem.W.findIn K (.ref C) "__init__" = some (some (.ref fDInit)))
    (iDInit : PySem.W.isFn K (.ref fDInit) = true)
    (lDInit : K.lookup fDInit = some ⟨ocDInit, odDInit, .func (PySem.W.fnOf "__init__" "Desk.__init__" (defArgs sDInit) (defBody sDInit) (defScope sDInit) .none kVDInit dcDInit pmDInit anDInit cdDInit ctDInit), slDInit⟩)
    (cDInit : PySem.W.codeIn K cdDInit "Desk.__init__" = true)
    (kDInit : PySem.W.keepIn K (.ref fDInit) = true)
    (aLaw : PySem.W.nsIn K mainGlobals "law" = some (some (.ref fLaw)))
    (lLaw : K.lookup fLaw = some ⟨ocLaw, odLaw, .func (PySem.W.fnOf "law" "law" (defArgs sLaw) (defBody sLaw) (defScope sLaw) .none kVLaw dcLaw pmLaw anLaw cdLaw ctLaw), slLaw⟩)
    (cLaw : PySem.W.codeIn K cdLaw "law" = true)
    (kLaw : PySem.W.keepIn K (.ref fLaw) = true)
    (lT : K.lookup tD = some ⟨ocT, odT, .seq #[.int 1 tT] nT, slT⟩)
    (pg : PySem.W.plainGet K C Str.empty = true)
    (hd : PySem.W.hasDictIn K C = true)
    (po : PySem.W.plainOver K C = true)
    (sa : PySem.W.findIn K (.ref C) "__setattr__" = some (some (.builtin "object.__setattr__")))
    (mk : PySem.W.makesIn K C = true)
    (kc : PySem.W.keepIn K (.ref C) = true)
    (n_room : PySem.W.findIn K (.ref C) "room" = some none)
    (n_counts : PySem.W.findIn K (.ref C) "counts" = some none)
    (n_gone : PySem.W.findIn K (.ref C) "gone" = some none)
    (n_total : PySem.W.findIn K (.ref C) "total" = some none)
    (o_len : PySem.W.nsIn K mainGlobals "len" = some none)
    (o_min : PySem.W.nsIn K mainGlobals "min" = some none)
    (o_list : PySem.W.nsIn K mainGlobals "list" = some none)
    (o_dict : PySem.W.nsIn K mainGlobals "dict" = some none)
    (o_sorted : PySem.W.nsIn K mainGlobals "sorted" = some none)
    (o_isinstance : PySem.W.nsIn K mainGlobals "isinstance" = some none)
    (o_int : PySem.W.nsIn K mainGlobals "int" = some none)
    (o_bool : PySem.W.nsIn K mainGlobals "bool" = some none)
    (o_str : PySem.W.nsIn K mainGlobals "str" = some none)
    (o_range : PySem.W.nsIn K mainGlobals "range" = some none)
    (o_enumerate : PySem.W.nsIn K mainGlobals "enumerate" = some none)
    (o_sum : PySem.W.nsIn K mainGlobals "sum" = some none)
    (v_LONGEST : PySem.W.nsIn K mainGlobals "LONGEST" = some (some (.int 8 t8)))
    (v_LETTERS : PySem.W.nsIn K mainGlobals "LETTERS" = some (some (.str "abcdefghijklmnopqrstuvwxyz" tL)))
    (v_GREATEST : PySem.W.nsIn K mainGlobals "GREATEST" = some (some (.int 1000000000000000000000000000000000000000000000000000000000000 tG)))
    (v_MOST_DRAWERS : PySem.W.nsIn K mainGlobals "MOST_DRAWERS" = some (some (.int 50 tM)))
    (v_FIGURES : PySem.W.nsIn K mainGlobals "FIGURES" = some (some (.str "0123456789" tFi)))
    (v_MOST_NUMBER : PySem.W.nsIn K mainGlobals "MOST_NUMBER" = some (some (.int 10000000000000000000000000000000000000000000000000000000000000000000000 tMN)))
    (ea_NoName : PySem.W.nsIn K mainGlobals "NoName" = some (some (.ref CN)))
    (ex_NoName : PySem.W.excIn K CN [.type "ValueError", .type "Exception", .type "BaseException", .type "object"] "ValueError.__new__" = true)
    (ek_NoName : PySem.W.keepIn K (.ref CN) = true)
    (eb_NoName : PySem.W.subIn K (.ref CN) (.type "BaseException") = some true)
    (et_NoName : PySem.W.typeIn K (.ref CN) = some (.type "type"))
    (ea_NoWeight : PySem.W.nsIn K mainGlobals "NoWeight" = some (some (.ref CW)))
    (ex_NoWeight : PySem.W.excIn K CW [.type "ValueError", .type "Exception", .type "BaseException", .type "object"] "ValueError.__new__" = true)
    (ek_NoWeight : PySem.W.keepIn K (.ref CW) = true)
    (eb_NoWeight : PySem.W.subIn K (.ref CW) (.type "BaseException") = some true)
    (et_NoWeight : PySem.W.typeIn K (.ref CW) = some (.type "type"))
    (ea_NoDesk : PySem.W.nsIn K mainGlobals "NoDesk" = some (some (.ref CD)))
    (ex_NoDesk : PySem.W.excIn K CD [.type "ValueError", .type "Exception", .type "BaseException", .type "object"] "ValueError.__new__" = true)
    (ek_NoDesk : PySem.W.keepIn K (.ref CD) = true)
    (eb_NoDesk : PySem.W.subIn K (.ref CD) (.type "BaseException") = some true)
    (et_NoDesk : PySem.W.typeIn K (.ref CD) = some (.type "type"))
    (ea_NoMatch : PySem.W.nsIn K mainGlobals "NoMatch" = some (some (.ref CQ)))
    (ea_NoPiece : PySem.W.nsIn K mainGlobals "NoPiece" = some (some (.ref CP)))
    (ea_NoText : PySem.W.nsIn K mainGlobals "NoText" = some (some (.ref CT)))
    (ea_DrawerError : PySem.W.nsIn K mainGlobals "DrawerError" = some (some (.ref CE)))
    (ce_b : PySem.W.subIn K (.ref CE) (.type "BaseException") = some true)
    (ce_d : PySem.W.hasDictIn K CE = true)
    (ce_t : PySem.W.typeIn K (.ref CE) = some (.type "type"))
    (ce_NoText : PySem.W.subIn K (.ref CT) (.ref CE) = some true)
    (kg_NoText : PySem.W.findIn K (.ref CT) "__getattribute__" = some (some (.builtin "BaseException.__getattribute__")))
    (kk_NoText : PySem.W.findIn K (.ref CT) "__getattr__" = some none)
    (kd_NoText : PySem.W.hasDictIn K CT = true)
    (ka_NoText : PySem.W.findIn K (.ref CT) "__class__" = some (some (.builtin "object.__class__")))
    (km_NoText : PySem.W.mroIn K CT (.type "object") = some true)
    (ks_NoText_NoName : PySem.W.subIn K (.ref CT) (.ref CN) = some false)
    (kn_NoText_NoName : (Value.ref CT == Value.ref CN) = false)
    (ks_NoText_NoWeight : PySem.W.subIn K (.ref CT) (.ref CW) = some false)
    (kn_NoText_NoWeight : (Value.ref CT == Value.ref CW) = false)
    (ks_NoText_NoDesk : PySem.W.subIn K (.ref CT) (.ref CD) = some false)
    (kn_NoText_NoDesk : (Value.ref CT == Value.ref CD) = false)
    (ks_NoText_NoMatch : PySem.W.subIn K (.ref CT) (.ref CQ) = some false)
    (kn_NoText_NoMatch : (Value.ref CT == Value.ref CQ) = false)
    (ks_NoText_NoPiece : PySem.W.subIn K (.ref CT) (.ref CP) = some false)
    (kn_NoText_NoPiece : (Value.ref CT == Value.ref CP) = false)
    (kd_NoName : PySem.W.hasDictIn K CN = true)
    (kz_NoName : PySem.W.subIn K (.type "NoneType") (.ref CN) = some false)
    (kd_NoWeight : PySem.W.hasDictIn K CW = true)
    (kz_NoWeight : PySem.W.subIn K (.type "NoneType") (.ref CW) = some false)
    (kd_NoDesk : PySem.W.hasDictIn K CD = true)
    (kz_NoDesk : PySem.W.subIn K (.type "NoneType") (.ref CD) = some false)
    (kd_NoMatch : PySem.W.hasDictIn K CQ = true)
    (et_NoMatch : PySem.W.typeIn K (.ref CQ) = some (.type "type"))
    (kz_NoMatch : PySem.W.subIn K (.type "NoneType") (.ref CQ) = some false)
    (kd_NoPiece : PySem.W.hasDictIn K CP = true)
    (et_NoPiece : PySem.W.typeIn K (.ref CP) = some (.type "type"))
    (kz_NoPiece : PySem.W.subIn K (.type "NoneType") (.ref CP) = some false)
    (et_NoText : PySem.W.typeIn K (.ref CT) = some (.type "type"))
    (kz_NoText : PySem.W.subIn K (.type "NoneType") (.ref CT) = some false)
    (kx_n : PySem.W.specialIn K (.builtin "object.__class__") "__get__" = some (some (.builtin "getset_descriptor.__get__")))
    (kx_t : PySem.W.takesIn K (.builtin "object.__class__") = some true)
    (eb_NoText : PySem.W.subIn K (.ref CT) (.type "BaseException") = some true)
    (ek_NoText : PySem.W.keepIn K (.ref CT) = true)
    (lCT : K.lookup CT = some (PySem.excClassObj nmT qT CT NT bsT bmT true snT subT abT colT ddT k0T k1T k2T k3T k5T "ValueError.__new__"))
    (rbT : PySem.HandSPX.refsVE bmT = true)
    (saT : PySem.W.findIn K (.ref CT) "__setattr__" = some (some (.builtin "object.__setattr__")))
    (rowT : PySem.W.findIn K (.ref CT) "row" = some none)
    (tNT : PySem.W.typeIn K (.ref fNoTextInit) = some (.type "function"))
    (gaE : PySem.W.specialIn K (.ref CE) "__getattribute__" = some (some (.builtin "type.__getattribute__")))
    (rdE : PySem.W.readsIn K CE (.type "type") = true)
    (vVE : PySem.W.findCls K (.ref CE) (.type "type") "__init__" = some (.val (.builtin "ValueError.__init__")))
    : ∃ fd : FuncData, (∀ (s : Shared) (v : Value), BindsTo s fd ⟨[v], []⟩ [("_law_script", v)]) ∧ ∀ base : Heap, K.In base → base.Ns mainGlobals mg → FnOk l.prog w K mg base CX0 8 fa fd pLaw (spLaw K) := by
  have e := hfa.symm.trans (PySem.W.mg_of X G aLaw)
  cases e
  have z_len := PySem.W.mg_none_of X G o_len
  have z_min := PySem.W.mg_none_of X G o_min
  have z_list := PySem.W.mg_none_of X G o_list
  have z_dict := PySem.W.mg_none_of X G o_dict
  have z_sorted := PySem.W.mg_none_of X G o_sorted
  have z_isinstance := PySem.W.mg_none_of X G o_isinstance
  have z_int := PySem.W.mg_none_of X G o_int
  have z_bool := PySem.W.mg_none_of X G o_bool
  have z_str := PySem.W.mg_none_of X G o_str
  have z_range := PySem.W.mg_none_of X G o_range
  have z_enumerate := PySem.W.mg_none_of X G o_enumerate
  have z_sum := PySem.W.mg_none_of X G o_sum
  have g_LONGEST := PySem.W.mg_of X G v_LONGEST
  have g_LETTERS := PySem.W.mg_of X G v_LETTERS
  have g_GREATEST := PySem.W.mg_of X G v_GREATEST
  have g_MOST_DRAWERS := PySem.W.mg_of X G v_MOST_DRAWERS
  have g_FIGURES := PySem.W.mg_of X G v_FIGURES
  have g_MOST_NUMBER := PySem.W.mg_of X G v_MOST_NUMBER
  have eN : ExT K mg "NoName" CN := ⟨PySem.W.mg_of X G ea_NoName, ex_NoName, ek_NoName, eb_NoName, et_NoName⟩
  have eW : ExT K mg "NoWeight" CW := ⟨PySem.W.mg_of X G ea_NoWeight, ex_NoWeight, ek_NoWeight, eb_NoWeight, et_NoWeight⟩
  have eD : ExT K mg "NoDesk" CD := ⟨PySem.W.mg_of X G ea_NoDesk, ex_NoDesk, ek_NoDesk, eb_NoDesk, et_NoDesk⟩
  have g_NoName := PySem.W.mg_of X G ea_NoName
  have g_NoWeight := PySem.W.mg_of X G ea_NoWeight
  have g_NoDesk := PySem.W.mg_of X G ea_NoDesk
  have g_NoMatch := PySem.W.mg_of X G ea_NoMatch
  have g_NoPiece := PySem.W.mg_of X G ea_NoPiece
  have g_NoText := PySem.W.mg_of X G ea_NoText
  have g_DrawerError := PySem.W.mg_of X G ea_DrawerError
  have h_NoText := PySem.W.exm_ref ce_b ce_d ce_t ce_NoText
  have x_NoText : ExcC K CT := ⟨kg_NoText, kk_NoText, eb_NoText, kd_NoText, ka_NoText, kx_n, kx_t, km_NoText⟩
  have kq_NoText_NoName := kit_no kn_NoText_NoName kd_NoName et_NoName ks_NoText_NoName
  have kq_NoText_NoWeight := kit_no kn_NoText_NoWeight kd_NoWeight et_NoWeight ks_NoText_NoWeight
  have kq_NoText_NoDesk := kit_no kn_NoText_NoDesk kd_NoDesk et_NoDesk ks_NoText_NoDesk
  have kq_NoText_NoMatch := kit_no kn_NoText_NoMatch kd_NoMatch et_NoMatch ks_NoText_NoMatch
  have kq_NoText_NoPiece := kit_no kn_NoText_NoPiece kd_NoPiece et_NoPiece ks_NoText_NoPiece
  have kq_NoText_NoText := kit_self (K := K) (D := CT)
  have k_NoText : Kind K CN CW CD CQ CP CT CT false false false false false true := ⟨x_NoText, kq_NoText_NoName, kq_NoText_NoWeight, kq_NoText_NoDesk, kq_NoText_NoMatch, kq_NoText_NoPiece, kq_NoText_NoText⟩
  have kz0_NoName := kit_no (t := .type "NoneType") rfl kd_NoName et_NoName kz_NoName
  have kz0_NoWeight := kit_no (t := .type "NoneType") rfl kd_NoWeight et_NoWeight kz_NoWeight
  have kz0_NoDesk := kit_no (t := .type "NoneType") rfl kd_NoDesk et_NoDesk kz_NoDesk
  have kz0_NoMatch := kit_no (t := .type "NoneType") rfl kd_NoMatch et_NoMatch kz_NoMatch
  have kz0_NoPiece := kit_no (t := .type "NoneType") rfl kd_NoPiece et_NoPiece kz_NoPiece
  have kz0_NoText := kit_no (t := .type "NoneType") rfl kd_NoText et_NoText kz_NoText
  have T : DkT K mg C CN CW CD := ⟨⟨pg, hd, po, sa⟩, n_room, n_counts, n_gone, n_total, PySem.W.mg_of X G aC, z_len, z_min, z_list, z_dict, z_sorted, eN, eW, eD⟩
  have F_IsWhole := fun_mk (st := sIsWhole) lIsWhole cIsWhole kIsWhole
  have b_IsWhole := F_IsWhole.binds (ps := pIsWhole) fun _ _ _ _ _ _ us hl => match us, hl with | [_], _ => rfl
  have F_IsName := fun_mk (st := sIsName) lIsName cIsName kIsName
  have b_IsName := F_IsName.binds (ps := pIsName) fun _ _ _ _ _ _ us hl => match us, hl with | [_], _ => rfl
  have F_NeedComing := fun_mk (st := sNeedComing) lNeedComing cNeedComing kNeedComing
  have b_NeedComing := F_NeedComing.binds (ps := pNeedComing) fun _ _ _ _ _ _ us hl => match us, hl with | [_, _], _ => rfl
  have F_NeedDrawers := fun_mk (st := sNeedDrawers) lNeedDrawers cNeedDrawers kNeedDrawers
  have b_NeedDrawers := F_NeedDrawers.binds (ps := pNeedDrawers) fun _ _ _ _ _ _ us hl => match us, hl with | [_], _ => rfl
  have F_Lowered := fun_mk (st := sLowered) lLowered cLowered kLowered
  have b_Lowered := F_Lowered.binds (ps := pLowered) fun _ _ _ _ _ _ us hl => match us, hl with | [_, _], _ => rfl
  have F_DCome : FunD K "come" "Desk.come" (defArgs sDCome) (defBody sDCome) (defScope sDCome) [.int 1] [] fDCome (PySem.W.fnOf "come" "Desk.come" (defArgs sDCome) (defBody sDCome) (defScope sDCome) (.ref tD) kVDCome dcDCome pmDCome anDCome cdDCome ctDCome) := ⟨⟨ocDCome, odDCome, .ref tD, kVDCome, dcDCome, pmDCome, anDCome, cdDCome, ctDCome, slDCome, rfl, lDCome, cDCome, .inr ⟨by simp, tD, _, [.int 1 tT], nT, rfl, lT, rfl, .cons ⟨tT, rfl⟩ .nil⟩, .inl rfl⟩, kDCome⟩
  have b_DCome : Binds K (PySem.W.fnOf "come" "Desk.come" (defArgs sDCome) (defBody sDCome) (defScope sDCome) (.ref tD) kVDCome dcDCome pmDCome anDCome cdDCome ctDCome) pDCome [] := by
    obtain ⟨ds, hv, hb⟩ := F_DCome.binds1 (ps := pDCome) 3 1 (by simp) rfl fun _ _ _ _ _ _ _ us its h1 h2 => match us, its, h1, h2 with | [_, _, _], [_], _, _ => ⟨_, rfl, rfl⟩
    cases hv
    exact hb
  have F_DShown := fun_mk (st := sDShown) lDShown cDShown kDShown
  have b_DShown := F_DShown.binds (ps := pDShown) fun _ _ _ _ _ _ us hl => match us, hl with | [_], _ => rfl
  have F_DLost := fun_mk (st := sDLost) lDLost cDLost kDLost
  have b_DLost := F_DLost.binds (ps := pDLost) fun _ _ _ _ _ _ us hl => match us, hl with | [_], _ => rfl
  have F_DWeight := fun_mk (st := sDWeight) lDWeight cDWeight kDWeight
  have b_DWeight := F_DWeight.binds (ps := pDWeight) fun _ _ _ _ _ _ us hl => match us, hl with | [_], _ => rfl
  have F_DDrawers := fun_mk (st := sDDrawers) lDDrawers cDDrawers kDDrawers
  have b_DDrawers := F_DDrawers.binds (ps := pDDrawers) fun _ _ _ _ _ _ us hl => match us, hl with | [_], _ => rfl
  have F_DLeast := fun_mk (st := sDLeast) lDLeast cDLeast kDLeast
  have b_DLeast := F_DLeast.binds (ps := pDLeast) fun _ _ _ _ _ _ us hl => match us, hl with | [_, _], _ => rfl
  have F_DMost := fun_mk (st := sDMost) lDMost cDMost kDMost
  have b_DMost := F_DMost.binds (ps := pDMost) fun _ _ _ _ _ _ us hl => match us, hl with | [_, _], _ => rfl
  have F_DeskOf := fun_mk (st := sDeskOf) lDeskOf cDeskOf kDeskOf
  have b_DeskOf := F_DeskOf.binds (ps := pDeskOf) fun _ _ _ _ _ _ us hl => match us, hl with | [_, _, _, _], _ => rfl
  have F_Written := fun_mk (st := sWritten) lWritten cWritten kWritten
  have b_Written := F_Written.binds (ps := pWritten) fun _ _ _ _ _ _ us hl => match us, hl with | [_], _ => rfl
  have F_NumberOf := fun_mk (st := sNumberOf) lNumberOf cNumberOf kNumberOf
  have b_NumberOf := F_NumberOf.binds (ps := pNumberOf) fun _ _ _ _ _ _ us hl => match us, hl with | [_, _, _], _ => rfl
  have F_HeadOf := fun_mk (st := sHeadOf) lHeadOf cHeadOf kHeadOf
  have b_HeadOf := F_HeadOf.binds (ps := pHeadOf) fun _ _ _ _ _ _ us hl => match us, hl with | [_], _ => rfl
  have F_PairOf := fun_mk (st := sPairOf) lPairOf cPairOf kPairOf
  have b_PairOf := F_PairOf.binds (ps := pPairOf) fun _ _ _ _ _ _ us hl => match us, hl with | [_], _ => rfl
  have F_NoTextInit := fun_mk (st := sNoTextInit) lNoTextInit cNoTextInit kNoTextInit
  have b_NoTextInit := F_NoTextInit.binds (ps := pNoTextInit) fun _ _ _ _ _ _ us hl => match us, hl with | [_, _], _ => rfl
  have F_Read := fun_mk (st := sRead) lRead cRead kRead
  have b_Read := F_Read.binds (ps := pRead) fun _ _ _ _ _ _ us hl => match us, hl with | [_], _ => rfl
  have F_LMixed := fun_mk (st := sLMixed) lLMixed cLMixed kLMixed
  have b_LMixed := F_LMixed.binds (ps := pLMixed) fun _ _ _ _ _ _ us hl => match us, hl with | [_, _], _ => rfl
  have F_LNames := fun_mk (st := sLNames) lLNames cLNames kLNames
  have b_LNames := F_LNames.binds (ps := pLNames) fun _ _ _ _ _ _ us hl => match us, hl with | [_], _ => rfl
  have F_LDrawers := fun_mk (st := sLDrawers) lLDrawers cLDrawers kLDrawers
  have b_LDrawers := F_LDrawers.binds (ps := pLDrawers) fun _ _ _ _ _ _ us hl => match us, hl with | [_], _ => rfl
  have F_LComing := fun_mk (st := sLComing) lLComing cLComing kLComing
  have b_LComing := F_LComing.binds (ps := pLComing) fun _ _ _ _ _ _ us hl => match us, hl with | [_, _, _], _ => rfl
  have F_LTold := fun_mk (st := sLTold) lLTold cLTold kLTold
  have b_LTold := F_LTold.binds (ps := pLTold) fun _ _ _ _ _ _ us hl => match us, hl with | [_], _ => rfl
  have F_LSpoilt := fun_mk (st := sLSpoilt) lLSpoilt cLSpoilt kLSpoilt
  have b_LSpoilt := F_LSpoilt.binds (ps := pLSpoilt) fun _ _ _ _ _ _ us hl => match us, hl with | [_, _, _, _], _ => rfl
  have F_DInit := fun_mk (st := sDInit) lDInit cDInit kDInit
  have b_DInit := F_DInit.binds (ps := pDInit) fun _ _ _ _ _ _ us hl => match us, hl with | [_, _], _ => rfl
  have F_Law := fun_mk (st := sLaw) lLaw cLaw kLaw
  refine ⟨PySem.W.fnOf "law" "law" (defArgs sLaw) (defBody sLaw) (defScope sLaw) .none kVLaw dcLaw pmLaw anLaw cdLaw ctLaw, fun s v => .of_eq rfl, fun base _ _ => ?_⟩
  have G_IsWhole : Gf l.prog w K mg base CX0 1 "is_whole" pIsWhole (spWhole K) := ⟨fIsWhole, _, ok_whole F_IsWhole z_isinstance z_int z_bool, b_IsWhole, PySem.W.mg_of X G aIsWhole, kIsWhole⟩
  have G_IsName : Gf l.prog w K mg base CX0 1 "is_name" pIsName (spName K) := ⟨fIsName, _, ok_name F_IsName z_isinstance z_str z_len g_LONGEST g_LETTERS, b_IsName, PySem.W.mg_of X G aIsName, kIsName⟩
  have G_NeedComing : Gf l.prog w K mg base (L2.CX l.prog w) 2 "need_coming" pNeedComing (spNeedComing K CN CW) := ⟨fNeedComing, _, ok_needComing F_NeedComing G_IsName G_IsWhole g_GREATEST eN eW, b_NeedComing, PySem.W.mg_of X G aNeedComing, kNeedComing⟩
  have G_NeedDrawers : Gf l.prog w K mg base (L2.CX l.prog w) 2 "need_drawers" pNeedDrawers (spNeedDrawers K CD) := ⟨fNeedDrawers, _, ok_needDrawers F_NeedDrawers G_IsWhole g_MOST_DRAWERS eD, b_NeedDrawers, PySem.W.mg_of X G aNeedDrawers, kNeedDrawers⟩
  have M_Desk : Mk K C fDInit := ⟨mk, aDInit, iDInit, kc⟩
  have OK_Init := ok_init (P := l.prog) (w := w) (base := base) F_DInit T G_NeedDrawers
  have G_Lowered : Gf l.prog w K mg base CX0 1 "lowered" pLowered spLowered := ⟨fLowered, _, ok_lowered F_Lowered, b_Lowered, PySem.W.mg_of X G aLowered, kLowered⟩
  have G_DCome : Gm l.prog w K mg base (L2.CX l.prog w) C 3 "come" pDCome (spCome K C CN CW) := ⟨fDCome, _, ok_come F_DCome T G_NeedComing G_Lowered, b_DCome, ⟨aDCome, iDCome, kDCome⟩⟩
  have G_DShown : Gm l.prog w K mg base CX0 C 1 "shown" pDShown (spShown C) := ⟨fDShown, _, ok_shown F_DShown T, b_DShown, ⟨aDShown, iDShown, kDShown⟩⟩
  have G_DLost : Gm l.prog w K mg base CX0 C 1 "lost" pDLost (spNum C fun _ g _ => g) := ⟨fDLost, _, ok_lost F_DLost T, b_DLost, ⟨aDLost, iDLost, kDLost⟩⟩
  have G_DWeight : Gm l.prog w K mg base CX0 C 1 "weight" pDWeight (spNum C fun _ _ t => t) := ⟨fDWeight, _, ok_weight F_DWeight T, b_DWeight, ⟨aDWeight, iDWeight, kDWeight⟩⟩
  have G_DDrawers : Gm l.prog w K mg base CX0 C 1 "drawers" pDDrawers (spNum C fun r _ _ => r) := ⟨fDDrawers, _, ok_drawers F_DDrawers T, b_DDrawers, ⟨aDDrawers, iDDrawers, kDDrawers⟩⟩
  have G_DLeast : Gm l.prog w K mg base (L2.CX l.prog w) C 2 "least" pDLeast (spLeast K C CN fun _ => 0) := ⟨fDLeast, _, ok_least F_DLeast T G_IsName, b_DLeast, ⟨aDLeast, iDLeast, kDLeast⟩⟩
  have G_DMost : Gm l.prog w K mg base (L2.CX l.prog w) C 3 "most" pDMost (spLeast K C CN fun g => g) := ⟨fDMost, _, ok_most F_DMost T G_DLeast, b_DMost, ⟨aDMost, iDMost, kDMost⟩⟩
  have G_DeskOf : Gf l.prog w K mg base CX0 5 "desk_of" pDeskOf (spDeskOf C) := ⟨fDeskOf, _, ok_deskOf F_DeskOf T M_Desk OK_Init b_DInit G_Lowered, b_DeskOf, PySem.W.mg_of X G aDeskOf, kDeskOf⟩
  have G_Written : Gf l.prog w K mg base CX0 2 "written" pWritten (spWritten C) := ⟨fWritten, _, ok_written F_Written T G_DShown G_DLost G_DWeight G_DDrawers z_str, b_Written, PySem.W.mg_of X G aWritten, kWritten⟩
  have G_NumberOf : Gf l.prog w K mg base CX0 1 "number_of" pNumberOf spNumOf := ⟨fNumberOf, _, ok_numOf F_NumberOf z_len z_int g_FIGURES, b_NumberOf, PySem.W.mg_of X G aNumberOf, kNumberOf⟩
  have G_HeadOf : Gf l.prog w K mg base CX0 2 "head_of" pHeadOf spHeadOf := ⟨fHeadOf, _, ok_headOf F_HeadOf G_NumberOf z_len g_MOST_DRAWERS g_MOST_NUMBER, b_HeadOf, PySem.W.mg_of X G aHeadOf, kHeadOf⟩
  have G_PairOf : Gf l.prog w K mg base CX0 2 "pair_of" pPairOf spPairOf := ⟨fPairOf, _, ok_pairOf F_PairOf G_NumberOf G_IsName z_len g_MOST_NUMBER, b_PairOf, PySem.W.mg_of X G aPairOf, kPairOf⟩
  have N_T : NtC K mg CT fNoTextInit := ⟨⟨⟨_, _, _, _, _, _, _, _, _, _, _, _, _, _, _, lCT, rbT⟩, saT, eb_NoText, et_NoText, ek_NoText⟩, rowT, g_NoText, aNoTextInit, tNT⟩
  have OK_NT := ok_noText (P := l.prog) (w := w) (base := base) (CT := CT) F_NoTextInit g_DrawerError gaE rdE vVE
  have XF_T : XfC K CT := ⟨kg_NoText, kk_NoText, eb_NoText, kd_NoText⟩
  have G_Read : Gf l.prog w K mg base (L2.CX l.prog w) 6 "read" pRead (spRead C CT) := ⟨fRead, _, ok_read F_Read T G_HeadOf G_PairOf G_DeskOf N_T OK_NT b_NoTextInit z_range z_sum z_int, b_Read, PySem.W.mg_of X G aRead, kRead⟩
  have G_LMixed : Gf l.prog w K mg base CX0 1 "_law_mixed" pLMixed spMixed := ⟨fLMixed, _, ok_mixed F_LMixed, b_LMixed, PySem.W.mg_of X G aLMixed, kLMixed⟩
  have G_LNames : Gf l.prog w K mg base CX0 2 "_law_names" pLNames (spNames K) := ⟨fLNames, _, ok_names F_LNames G_LMixed z_len z_min z_range, b_LNames, PySem.W.mg_of X G aLNames, kLNames⟩
  have G_LDrawers : Gf l.prog w K mg base CX0 2 "_law_drawers" pLDrawers (spDrawers K) := ⟨fLDrawers, _, ok_drawersL F_LDrawers G_LMixed, b_LDrawers, PySem.W.mg_of X G aLDrawers, kLDrawers⟩
  have G_LComing : Gf l.prog w K mg base CX0 2 "_law_coming" pLComing (spComing K) := ⟨fLComing, _, ok_coming F_LComing G_LMixed, b_LComing, PySem.W.mg_of X G aLComing, kLComing⟩
  have G_LTold : Gf l.prog w K mg base CX0 7 "_law_told" pLTold spTold13 := ⟨fLTold, _, ok_told13 F_LTold G_Read XF_T rowT z_isinstance z_bool g_NoName g_NoWeight g_NoDesk g_NoMatch g_NoPiece g_NoText g_DrawerError h_NoText k_NoText kz0_NoName kz0_NoWeight kz0_NoDesk kz0_NoMatch kz0_NoPiece kz0_NoText, b_LTold, PySem.W.mg_of X G aLTold, kLTold⟩
  have G_LSpoilt : Gf l.prog w K mg base CX0 1 "_law_spoilt" pLSpoilt spSpoilt := ⟨fLSpoilt, _, ok_spoilt F_LSpoilt z_len z_int, b_LSpoilt, PySem.W.mg_of X G aLSpoilt, kLSpoilt⟩
  have LG : LawG l.prog w K mg base C CN CW CD := ⟨T, ⟨fDInit, _, ⟨mk, aDInit, iDInit, kc⟩, ok_init F_DInit T G_NeedDrawers, b_DInit⟩, G_DCome, G_DShown, G_DLost, G_DWeight, G_DDrawers, G_DLeast, G_DMost, G_LMixed, G_LNames, G_LDrawers, G_LComing⟩
  exact ok_law F_Law LG G_Written G_LTold G_LSpoilt z_enumerate z_str
theorem walk {l : PySem.W.OpenLaw} {q : Program} {loose : List Str} {XP : (Str → Option Value) → Heap → Prop} {YP : World → Heap → Prop} {d : DefRec} {K : Params → PySem.W.Frag} (hn : l.most = some 63) (hdf : d.params.defaults = [])
    (hY : ∀ (w : World) (h : Heap), YP w h → (K w.params).In h)
    (F : ∀ (w : World) (mg : Str → Option Value) (fa : Addr) (h : Heap), (K w.params).In h → h.Ns mainGlobals mg → mg d.name = some (.ref fa) →
      ∃ fd : FuncData, (∀ (s : Shared) (u : Value), BindsTo s fd ⟨[u], []⟩ [("_law_script", u)]) ∧ ∀ base : Heap, (K w.params).In base → base.Ns mainGlobals mg → FnOk l.prog w (K w.params) mg base CX0 8 fa fd pLaw (spLaw (K w.params))) :
    PySem.W.WalkO q loose XP YP l.row.toRowW d [] (fun f vs => PySem.call f vs) :=
  L2.walk_of (n := 63) (k := 8) (x := "_law_script") (CX := fun _ => CX0) (sp := fun w => spLaw (K w.params)) hn (by decide) hdf ⟨rfl, by decide, by decide⟩ hY F (fun _ _ a ns hl _ hS => ⟨a, ns, rfl, hS, hl, fun _ => rfl⟩) fun _ _ _ _ _ z => z
end DK
open PySem PySem.W PyProof.Rows
set_option maxRecDepth 100000 in
set_option maxHeartbeats 0 in
theorem PySem.Challenge.cw_drawerdesk_k13_read_refused_holds : PySem.Challenge.rw_drawerdesk_k13_read_refused.Holds := by
  w_on; o_law; k_head; (case hw => w_witness2)
  k_fill
  refine DK.walk (l := PySem.Challenge.rw_drawerdesk_k13_read_refused) rfl rfl (fun w h Y => PySem.W.kIn_of Y) ?F
  case F =>
    intro w mg fa h KX G hmg
    refine' DK.all_mk KX G hmg ?aC ?aCT ?aIsWhole ?lIsWhole ?cIsWhole ?kIsWhole ?aIsName ?lIsName ?cIsName ?kIsName ?aNeedComing ?lNeedComing ?cNeedComing ?kNeedComing ?aNeedDrawers ?lNeedDrawers ?cNeedDrawers ?kNeedDrawers ?aLowered ?lLowered ?cLowered ?kLowered ?aDCome ?iDCome ?lDCome ?cDCome ?kDCome ?aDShown ?iDShown ?lDShown ?cDShown ?kDShown ?aDLost ?iDLost ?lDLost ?cDLost ?kDLost ?aDWeight ?iDWeight ?lDWeight ?cDWeight ?kDWeight ?aDDrawers ?iDDrawers ?lDDrawers ?cDDrawers ?kDDrawers ?aDLeast ?iDLeast ?lDLeast ?cDLeast ?kDLeast ?aDMost ?iDMost ?lDMost ?cDMost ?kDMost ?aDeskOf ?lDeskOf ?cDeskOf ?kDeskOf ?aWritten ?lWritten ?cWritten ?kWritten ?aNumberOf ?lNumberOf ?cNumberOf ?kNumberOf ?aHeadOf ?lHeadOf ?cHeadOf ?kHeadOf ?aPairOf ?lPairOf ?cPairOf ?kPairOf ?aNoTextInit ?iNoTextInit ?lNoTextInit ?cNoTextInit ?kNoTextInit ?aRead ?lRead ?cRead ?kRead ?aLMixed ?lLMixed ?cLMixed ?kLMixed ?aLNames ?lLNames ?cLNames ?kLNames ?aLDrawers ?lLDrawers ?cLDrawers ?kLDrawers ?aLComing ?lLComing ?cLComing ?kLComing ?aLTold ?lLTold ?cLTold ?kLTold ?aLSpoilt ?lLSpoilt ?cLSpoilt ?kLSpoilt ?aDInit ?iDInit ?lDInit ?cDInit ?kDInit ?aLaw ?lLaw ?cLaw ?kLaw ?lT ?pg ?hd ?po ?sa ?mk ?kc ?n_room ?n_counts ?n_gone ?n_total ?o_len ?o_min ?o_list ?o_dict ?o_sorted ?o_isinstance ?o_int ?o_bool ?o_str ?o_range ?o_enumerate ?o_sum ?v_LONGEST ?v_LETTERS ?v_GREATEST ?v_MOST_DRAWERS ?v_FIGURES ?v_MOST_NUMBER ?ea_NoName ?ex_NoName ?ek_NoName ?eb_NoName ?et_NoName ?ea_NoWeight ?ex_NoWeight ?ek_NoWeight ?eb_NoWeight ?et_NoWeight ?ea_NoDesk ?ex_NoDesk ?ek_NoDesk ?eb_NoDesk ?et_NoDesk ?ea_NoMatch ?ea_NoPiece ?ea_NoText ?ea_DrawerError ?ce_b ?ce_d ?ce_t ?ce_NoText ?kg_NoText ?kk_NoText ?kd_NoText ?ka_NoText ?km_NoText ?ks_NoText_NoName ?kn_NoText_NoName ?ks_NoText_NoWeight ?kn_NoText_NoWeight ?ks_NoText_NoDesk ?kn_NoText_NoDesk ?ks_NoText_NoMatch ?kn_NoText_NoMatch ?ks_NoText_NoPiece ?kn_NoText_NoPiece ?kd_NoName ?kz_NoName ?kd_NoWeight ?kz_NoWeight ?kd_NoDesk ?kz_NoDesk ?kd_NoMatch ?et_NoMatch ?kz_NoMatch ?kd_NoPiece ?et_NoPiece ?kz_NoPiece ?et_NoText ?kz_NoText ?kx_n ?kx_t ?eb_NoText ?ek_NoText ?lCT ?rbT ?saT ?rowT ?tNT ?gaE ?rdE ?vVE
    (case aC => k_is)
    (case aCT => k_is)
    (case aIsWhole => k_is)
    (case lIsWhole => k_is)
    (case cIsWhole => k_is)
    (case kIsWhole => k_is)
    (case aIsName => k_is)
    (case lIsName => k_is)
    (case cIsName => k_is)
    (case kIsName => k_is)
    (case aNeedComing => k_is)
    (case lNeedComing => k_is)
    (case cNeedComing => k_is)
    (case kNeedComing => k_is)
    (case aNeedDrawers => k_is)
    (case lNeedDrawers => k_is)
    (case cNeedDrawers => k_is)
    (case kNeedDrawers => k_is)
    (case aLowered => k_is)
    (case lLowered => k_is)
    (case cLowered => k_is)
    (case kLowered => k_is)
    (case aDCome => k_is)
    (case iDCome => k_is)
    (case lDCome => k_is)
    (case cDCome => k_is)
    (case kDCome => k_is)
    (case aDShown => k_is)
    (case iDShown => k_is)
    (case lDShown => k_is)
    (case cDShown => k_is)
    (case kDShown => k_is)
    (case aDLost => k_is)
    (case iDLost => k_is)
    (case lDLost => k_is)
    (case cDLost => k_is)
    (case kDLost => k_is)
    (case aDWeight => k_is)
    (case iDWeight => k_is)
    (case lDWeight => k_is)
    (case cDWeight => k_is)
    (case kDWeight => k_is)
    (case aDDrawers => k_is)
    (case iDDrawers => k_is)
    (case lDDrawers => k_is)
    (case cDDrawers => k_is)
    (case kDDrawers => k_is)
    (case aDLeast => k_is)
    (case iDLeast => k_is)
    (case lDLeast => k_is)
    (case cDLeast => k_is)
    (case kDLeast => k_is)
    (case aDMost => k_is)
    (case iDMost => k_is)
    (case lDMost => k_is)
    (case cDMost => k_is)
    (case kDMost => k_is)
    (case aDeskOf => k_is)
    (case lDeskOf => k_is)
    (case cDeskOf => k_is)
    (case kDeskOf => k_is)
    (case aWritten => k_is)
    (case lWritten => k_is)
    (case cWritten => k_is)
    (case kWritten => k_is)
    (case aNumberOf => k_is)
    (case lNumberOf => k_is)
    (case cNumberOf => k_is)
    (case kNumberOf => k_is)
    (case aHeadOf => k_is)
    (case lHeadOf => k_is)
    (case cHeadOf => k_is)
    (case kHeadOf => k_is)
    (case aPairOf => k_is)
    (case lPairOf => k_is)
    (case cPairOf => k_is)
    (case kPairOf => k_is)
    (case aNoTextInit => k_is)
    (case iNoTextInit => k_is)
    (case lNoTextInit => k_is)
    (case cNoTextInit => k_is)
    (case kNoTextInit => k_is)
    (case aRead => k_is)
    (case lRead => k_is)
    (case cRead => k_is)
    (case kRead => k_is)
    (case aLMixed => k_is)
    (case lLMixed => k_is)
    (case cLMixed => k_is)
    (case kLMixed => k_is)
    (case aLNames => k_is)
    (case lLNames => k_is)
    (case cLNames => k_is)
    (case kLNames => k_is)
    (case aLDrawers => k_is)
    (case lLDrawers => k_is)
    (case cLDrawers => k_is)
    (case kLDrawers => k_is)
    (case aLComing => k_is)
    (case lLComing => k_is)
    (case cLComing => k_is)
    (case kLComing => k_is)
    (case aLTold => k_is)
    (case lLTold => k_is)
    (case cLTold => k_is)
    (case kLTold => k_is)
    (case aLSpoilt => k_is)
    (case lLSpoilt => k_is)
    (case cLSpoilt => k_is)
    (case kLSpoilt => k_is)
    (case aDInit => k_is)
    (case iDInit => k_is)
    (case lDInit => k_is)
    (case cDInit => k_is)
    (case kDInit => k_is)
    (case aLaw => k_is)
    (case lLaw => k_is)
    (case cLaw => k_is)
    (case kLaw => k_is)
    (case lT => k_is)
    (case pg => k_is)
    (case hd => k_is)
    (case po => k_is)
    (case sa => k_is)
    (case mk => k_is)
    (case kc => k_is)
    (case n_room => k_is)
    (case n_counts => k_is)
    (case n_gone => k_is)
    (case n_total => k_is)
    (case o_len => k_is)
    (case o_min => k_is)
    (case o_list => k_is)
    (case o_dict => k_is)
    (case o_sorted => k_is)
    (case o_isinstance => k_is)
    (case o_int => k_is)
    (case o_bool => k_is)
    (case o_str => k_is)
    (case o_range => k_is)
    (case o_enumerate => k_is)
    (case o_sum => k_is)
    (case v_LONGEST => k_is)
    (case v_LETTERS => k_is)
    (case v_GREATEST => k_is)
    (case v_MOST_DRAWERS => k_is)
    (case v_FIGURES => k_is)
    (case v_MOST_NUMBER => k_is)
    (case ea_NoName => k_is)
    (case ex_NoName => k_exc)
    (case ek_NoName => k_is)
    (case eb_NoName => k_is)
    (case et_NoName => k_is)
    (case ea_NoWeight => k_is)
    (case ex_NoWeight => k_exc)
    (case ek_NoWeight => k_is)
    (case eb_NoWeight => k_is)
    (case et_NoWeight => k_is)
    (case ea_NoDesk => k_is)
    (case ex_NoDesk => k_exc)
    (case ek_NoDesk => k_is)
    (case eb_NoDesk => k_is)
    (case et_NoDesk => k_is)
    (case ea_NoMatch => k_is)
    (case ea_NoPiece => k_is)
    (case ea_NoText => k_is)
    (case ea_DrawerError => k_is)
    (case ce_b => k_is)
    (case ce_d => k_is)
    (case ce_t => k_is)
    (case ce_NoText => k_is)
    (case kg_NoText => k_is)
    (case kk_NoText => k_is)
    (case kd_NoText => k_is)
    (case ka_NoText => k_is)
    (case km_NoText => k_is)
    (case ks_NoText_NoName => k_is)
    (case kn_NoText_NoName => rfl)
    (case ks_NoText_NoWeight => k_is)
    (case kn_NoText_NoWeight => rfl)
    (case ks_NoText_NoDesk => k_is)
    (case kn_NoText_NoDesk => rfl)
    (case ks_NoText_NoMatch => k_is)
    (case kn_NoText_NoMatch => rfl)
    (case ks_NoText_NoPiece => k_is)
    (case kn_NoText_NoPiece => rfl)
    (case kd_NoName => k_is)
    (case kz_NoName => k_is)
    (case kd_NoWeight => k_is)
    (case kz_NoWeight => k_is)
    (case kd_NoDesk => k_is)
    (case kz_NoDesk => k_is)
    (case kd_NoMatch => k_is)
    (case et_NoMatch => k_is)
    (case kz_NoMatch => k_is)
    (case kd_NoPiece => k_is)
    (case et_NoPiece => k_is)
    (case kz_NoPiece => k_is)
    (case et_NoText => k_is)
    (case kz_NoText => k_is)
    (case kx_n => k_is)
    (case kx_t => k_is)
    (case eb_NoText => k_is)
    (case ek_NoText => k_is)
    (case lCT => k_is)
    (case rbT => decide +kernel)
    (case saT => k_is)
    (case rowT => k_is)
    (case tNT => k_is)
    (case gaE => k_is)
    (case rdE => k_is)
    (case vVE => k_is)
#print axioms PySem.Challenge.cw_drawerdesk_k13_read_refused_holds
