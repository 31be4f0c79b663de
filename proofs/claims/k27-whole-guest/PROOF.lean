import PyProof.Rows.All
import Wide.All
import OpenK.AllK
import Wide.FinOn
import HandS.ForMost
import HandS.Exc
import HandS.TryOnly
import HandS.ExcOwn
import HandS.WordsExc
import HandS.More
import HandS.IsInst
import HandS.Deep
import HandS.Wide
import HandS.Small
import HandS.SortRule
import PyProof.Rows.SortShellAny
import PyProof.Rows.RegFStrParts
import KE.DataFind
import KE.KDictList
import PyProof.DictUpdate
import KE.OsSortAny
import PySem.Challenge.RW_heardahead_k27_whole_a_guest_by_the_rule
import HandS.WordsDict
import HandS.Iter
set_option Elab.async false
set_option linter.all false
set_option maxRecDepth 100000
set_option maxHeartbeats 2000000
/-! Rules of the hand layer that this claim wants beside the modules' own. -/
namespace Ha
open PySem PySem.Spec PyProof.Rows L2
section
variable {X : Cx}
/-- sorted(xs), texts, any number -/
def rSortedSA (K : PySem.W.Frag) : List V → Hp → VK → Prop := fun vs H Q => ∃ (a : Addr) (xs : List Str), vs = [V.ref a] ∧ SqL K H a (xs.map V.str) ∧
  ∀ (ys : List Str) (p : Addr), ys.Perm xs → sortedS ys = true → H p = none → Q (.ref p) (upd H p (.lst (ys.map V.str)))
theorem cr_sortedSA : CallR X (.builtin "sorted") (rSortedSA X.K) := by
  intro pins s σ H vs us Q I r h
  obtain ⟨a, xs, rfl, hs, q⟩ := h
  obtain ⟨its, rv, hl, hz⟩ := I.list hs
  rw [Vals.ref1 r]
  have hlen0 := rv.length
  refine PyProof.Rows.sorted_strsAny hl.isList rv.strs (by rw [← hlen0]; exact hz) fun out ys h1 h2 h3 => ?_
  obtain ⟨ep, he'⟩ := PyProof.Rows.sortedAll_at s.heap its out
  have hlen : (ys.map V.str).length ≤ sizeLine := by
    rw [List.length_map, h2.length_eq]
    rw [List.length_map] at hz
    exact hz
  exact ⟨.ref _, upd H (s.heap.objs.size + 1) (.lst (ys.map V.str)), I.laid (t' := s.toks) (fun _ _ => PyProof.Rows.sortedAll_old) (Nat.le_succ _) ⟨hlen, out.toList, ep, vals_of_strs h1, he'⟩, rfl, q ys _ h2 h3 (I.hok.fresh (Nat.le_succ _))⟩
/-- sorted(d) of a dict whose keys are texts, any number -/
def rSortedDA : List V → Hp → VK → Prop := fun xs H Q => ∃ (a : Addr) (kvs : List (Key × V)) (ks : List Str), xs = [.ref a] ∧ Rd H a (.dK kvs) ∧ kvs.map (·.1) = ks.map Sum.inr ∧
    ∀ (ys : List Str) (p : Addr), ys.Perm ks → sortedS ys = true → H p = none → Q (.ref p) (upd H p (.lst (ys.map V.str)))
theorem cr_sortedDA (hcalm : X.calm = true) : CallR X (.builtin "sorted") rSortedDA := by
  intro pins s σ H xs us Q I r q
  obtain ⟨a, kvs, ks, ex, hd, hks, q⟩ := q
  subst ex
  obtain ⟨u, eu, rx⟩ := vals1 r
  subst eu
  cases rx
  obtain ⟨z, lo, vs, rel, dd⟩ := dk_rd I.hok hd
  obtain ⟨ep, hat⟩ := dd.dictAt
  have hkeys : vs.map (·.1) = ks.map Sum.inr := rel.keys.symm.trans hks
  have hl : vs.length = ks.length := by
    have e := congrArg List.length hkeys
    rw [List.length_map, List.length_map] at e
    exact e
  have hlk : kvs.length = ks.length := by
    have e := congrArg List.length hks
    rw [List.length_map, List.length_map] at e
    exact e
  have h16 : vs.length ≤ sizeLine := by rw [hl, ← hlk]; exact z
  refine Calls.call_function_entry PyProof.Rows.kind_sorted PyProof.Rows.plain_sorted PyProof.Rows.entry_sorted (PyProof.Rows.args_sorted1 _) ?_
  unfold Builtin.«sorted»
  refine wpAny_bind (m := checkCount "sorted" 1 1 _) (wpAny_pure ?_)
  refine wpAny_bind (PySem.W.kdu_collect (A := X.A.in1) (PySem.W.kdl_dict (knd := mixKind X.prog X.w) (kvs := vs) (ep := ep) lo) (I.ok.hd hcalm) hat h16 fun h' tk acc hk hacc => ?_)
  have hal : acc.toList.length = ks.length := by rw [Array.length_toList, hacc.1, hl]
  have hS : StrsAre acc.toList ks := strs_at hal fun j v e => by
    obtain ⟨k, x, e1, e2⟩ := hacc.2 j v (by rw [← Array.getElem?_toList]; exact e)
    have e3 : (vs.map (·.1))[j]? = some k := by rw [List.getElem?_map, e1]; all_goals rfl
    rw [hkeys, List.getElem?_map] at e3
    cases e4 : ks[j]? with
    | none => rw [e4] at e3; cases e3
    | some y =>
      rw [e4] at e3
      have e5 : Sum.inr y = k := Option.some.inj e3
      subst e5
      obtain ⟨t, ev⟩ := Value.isStrOf_shape (x := y) (v := v) e2
      exact ⟨y, t, rfl, ev⟩
  have I1 : Inv X pins σ H { s with heap := h', toks := tk } := I.kept hk
  refine wpAny_bind (wpAny_newList ?_ (by rw [hal, ← hlk]; exact z))
  have hoL : (h'.push (seqObj "list" acc.toList.toArray 0)).get? h'.objs.size = some (seqObj "list" acc.toList.toArray 0) := Heap.get?_push_size _ rfl
  show wpAny _ _ _ _ _ { s with heap := h'.push (seqObj "list" acc.toList.toArray 0), toks := tk }
  refine wpAny_bind (wpAny_holding (wpAny_call_entry PyProof.Rows.slot_list_sort ⟨_, hoL, rfl⟩ PyProof.Rows.entry_list_sort
    (list_sort_treeKAny strKind_oneLt (s := { s with heap := h'.push (seqObj "list" acc.toList.toArray 0), toks := tk }) hoL hS.keysOf (fun v₁ v₂ rest e => keyKind_strs (by rw [← e]; exact hS)) (by rw [hal, ← hlk]; exact z) fun st' hp hs => ⟨_, rfl, ?_⟩)
    (PyProof.Rows.args_list_sort _)))
  obtain ⟨ys, g1, g2, g3⟩ := sorted_out_str hS hp hs
  obtain ⟨e', he'⟩ := PyProof.Rows.sortedHeap_at (vs := acc.toList) (out := (arrOf st').map (·.2)) hoL
  have hlen : (ys.map V.str).length ≤ sizeLine := by
    rw [List.length_map, g2.length_eq, ← hlk]
    exact z
  refine wpAny_pure ⟨_, rfl, .ref h'.objs.size, upd H h'.objs.size (.lst (ys.map V.str)), I1.laid (t' := tk) (fun b u e => ?_) (Nat.le_refl _)
    ⟨hlen, ((arrOf st').map (·.2)).toList, e', vals_of_strs g1, ?_⟩, rfl, q ys _ g2 g3 (I1.hok.fresh (Nat.le_refl _))⟩
  · rw [PyProof.Rows.sortedHeap_old (Nat.ne_of_lt (Heap.lt_size e)) (by rw [Heap.size_push]; exact Nat.lt_succ_of_lt (Heap.lt_size e))]
    exact Heap.get?_push_of_some _ e
  · first | exact he' | (rw [Array.toArray_toList]; exact he')
/-- xs.count(y), data -/
def rCountD (K : PySem.W.Frag) : V → List V → Hp → VK → Prop := fun x xs H Q => ∃ (a : Addr) (y : V) (d : PyData) (ds : List PyData), x = V.ref a ∧ xs = [y] ∧ Dp K H (V.ref a) (.list ds) ∧ Dp K H y d ∧
  PyData.plainAll ds = true ∧ d.plain = true ∧ d.depth ≤ 60 ∧ Q (.int ((ds.countP fun z => PyData.eqv z d : Nat) : Int)) H
theorem mt_countD (hu : X.A.units + 65 < cLine) : MtR X "list.count" (rCountD X.K) := by
  intro pins s σ H x xs v us Q I rx rxs h
  obtain ⟨a, y, d, ds, rfl, rfl, hl, hy, pl, pd, dd, q⟩ := h
  cases rx
  cases rxs with
  | cons ry rt =>
    rename_i uy ut
    cases rt
    obtain ⟨bs, r1⟩ := Dp.reads I d y uy hy ry
    cases hl with
    | lst hs ha =>
      obtain ⟨its, rv, hpl, hlen⟩ := I.list hs
      obtain ⟨as, h4⟩ := Dp.readsAll I ds _ its ha rv
      exact SeqAt.count_list_data hpl.isList (show ReadsAll s.heap its.toArray.toList ds as from h4) r1 pl pd (by have : min (PyData.depthAll ds) d.depth ≤ d.depth := Nat.min_le_right _ _; omega) ⟨.int _, H, I.tok _, ⟨_, rfl⟩, q⟩
/-- xs.remove(y), texts, y there -/
def rRemS : V → List V → Hp → VK → Prop := fun x xs H Q => ∃ (l : Addr) (ns : List Str) (k : Str), x = .ref l ∧ xs = [.str k] ∧ H l = some (.lst (ns.map V.str)) ∧ k ∈ ns ∧ Q .non (upd H l (.lst ((ns.erase k).map V.str)))
theorem dpAll_strs {K : PySem.W.Frag} {H : Hp} : ∀ ns : List Str, DpAll K H (ns.map V.str) (ns.map PyData.str)
  | [] => .nil
  | x :: r => .cons (.str x) (dpAll_strs r)
theorem plainAll_strs : ∀ ns : List Str, PyData.plainAll (ns.map PyData.str) = true
  | [] => rfl
  | x :: r => by
    show (PyData.plain (.str x) && PyData.plainAll (r.map PyData.str)) = true
    rw [plainAll_strs r]
    rfl
theorem map_eraseS : ∀ (ns : List Str) (j : Nat), (ns.map V.str).eraseIdx j = (ns.eraseIdx j).map V.str
  | [], _ => rfl
  | _ :: _, 0 => rfl
  | n :: r, j + 1 => by
    show V.str n :: (r.map V.str).eraseIdx j = V.str n :: (r.eraseIdx j).map V.str
    rw [map_eraseS r j]
theorem firstS {k : Str} : ∀ {ns : List Str}, k ∈ ns → ∃ j, SeqAt.dataPlace (ns.map PyData.str) (.str k) = some j ∧ ns.eraseIdx j = ns.erase k
  | [], h => absurd h (by simp)
  | x :: r, h => by
    unfold SeqAt.dataPlace
    rw [List.map_cons, List.findIdx?_cons]
    have ee : PyData.eqv (.str x) (.str k) = (x == k) := by simp only [PyData.eqv]
    rw [ee]
    by_cases e : x = k
    · subst e
      refine ⟨0, by simp, ?_⟩
      rw [List.erase_cons_head] <;> rfl
    · have hr : k ∈ r := by
        rcases List.mem_cons.mp h with z | z
        · exact absurd z.symm e
        · exact z
      obtain ⟨j, h1, h2⟩ := firstS hr
      have eb : (x == k) = false := by simpa using e
      refine ⟨j + 1, ?_, ?_⟩
      · rw [eb]
        unfold SeqAt.dataPlace at h1
        rw [if_neg Bool.false_ne_true, h1]
        all_goals rfl
      · rw [List.erase_cons_tail (by rw [eb]; exact Bool.false_ne_true), ← h2] <;> rfl
theorem mt_remS (hu : X.A.units + 65 < cLine) : MtM X "list.remove" rRemS := by
  intro pins s σ H x xs v us Q I rx rxs h
  obtain ⟨l, ns, k, rfl, rfl, hH, hk, q⟩ := h
  cases rx
  obtain ⟨u, rfl, ru⟩ := rxs.one
  obtain ⟨z, its, n, r, hl, e⟩ := I.lstM hH
  obtain ⟨j, h1, h2⟩ := firstS hk
  obtain ⟨bs, r1⟩ := Dp.reads I (.str k) (.str k) u (.str k) ru
  obtain ⟨as, h4⟩ := Dp.readsAll I (ns.map PyData.str) _ its (dpAll_strs ns) r
  have hsz : its.toArray.size ≤ sizeLine := by rw [List.size_toArray, ← hl]; exact z
  have hd0 : X.A.units + 1 + min (PyData.depthAll (ns.map PyData.str)) (PyData.depth (.str k)) < cLine := by
    have e0 : PyData.depth (.str k) = 0 := by simp only [PyData.depth]
    rw [e0, Nat.min_zero]
    omega
  refine SeqAt.remove_list_data (vs := its.toArray) ⟨_, e, rfl, _, rfl⟩ (show ReadsAll s.heap its.toArray.toList _ as from h4) r1 (plainAll_strs ns) rfl hd0 h1 hsz ?_
  have r2 : Vals ((ns.erase k).map V.str) (its.eraseIdx j) := by
    have w := r.eraseIdx j
    rw [map_eraseS, h2] at w
    exact w
  refine ⟨.non, _, I.lset (its' := its.eraseIdx j) (t' := s.toks) hH e ?_ r2 ?_, rfl, q⟩
  · show its.toArray.eraseIdxIfInBounds j = (its.eraseIdx j).toArray
    rw [List.eraseIdxIfInBounds_toArray]
  · rw [List.length_map]
    have := List.length_erase_le (a := k) (l := ns)
    rw [List.length_map] at z
    omega
/-- a ** n, of any a while the power is below some million bits -/
def CPowW (i j : Int) : Prop := 0 ≤ j ∧ (Builtin.Int.intBits i : Int) * j ≤ 2 ^ 27
theorem op_powW : OpR X (binaryOp .Pow) (rI CPowW fun i j => .int (i ^ j.toNat)) := opI fun _ _ _ _ _ _ _ hc q => pow_int hc.1 hc.2 q
/-- x in t, t a tuple of data -/
def rInTD (K : PySem.W.Frag) : R2 := fun x y H Q => ∃ d ds, Dp K H x d ∧ Dp K H y (.tuple ds) ∧ SeqAt.shaped d = true ∧ SeqAt.shaped (.tuple ds) = true ∧ Q (.bl (ds.any fun z => PyData.eqv z d)) H
theorem op_inTD (hu : X.A.units + 65 < cLine) : OpR X (compareOp .In) (rInTD X.K) := by
  intro pins s σ H x y v u Q I rx ry h
  obtain ⟨d, ds, hd, he, sd, se, q⟩ := h
  obtain ⟨as, r1⟩ := Dp.reads I d x v hd rx
  obtain ⟨bs, r2⟩ := Dp.reads I (.tuple ds) y u he ry
  exact SeqAt.in_tuple_reads r2 r1 (SeqAt.canLay_of_shaped se) (SeqAt.canLay_of_shaped sd) (room_in_shaped sd hu) ⟨.bl _, H, I, rfl, q⟩
/-- d.update(e), e another dict -/
def rDUpd : V → List V → Hp → VK → Prop := fun x xs H Q => ∃ (a b : Addr) (kvs more : List (Key × V)), x = .ref a ∧ xs = [.ref b] ∧ a ≠ b ∧ H a = some (.dK kvs) ∧ H b = some (.dK more) ∧ kvs.length + more.length ≤ sizeLine ∧ (mergeK kvs more).length ≤ sizeLine ∧ Q .non (upd H a (.dK (mergeK kvs more)))
theorem mt_dupdate : MtR X "dict.update" rDUpd := by
  intro pins s σ H x xs v us Q I rx rxs h
  obtain ⟨a, b, kvs, more, rfl, rfl, hab, ha, hb, hz, hz2, q⟩ := h
  cases rx
  cases rxs with
  | cons ry rt =>
    cases rt
    cases ry
    obtain ⟨_, lo, vs, rel, dd⟩ := dk_of I.hok ha
    obtain ⟨_, lob, ws, relb, ddb⟩ := dk_of I.hok hb
    refine call_meetsIn F.slot_dict_update dd.typeIs F.entry_dict_update (F.args_dict_update_2 _ _) (meets_dict_update (mixKind X.prog X.w) a b hab lob) ⟨vs, ws, dd, ddb, by rw [← KV.length rel, ← KV.length relb]; exact hz, fun h' hd' ho' hs' => ?_⟩
    have hd'' := hd'
    obtain ⟨o', es', ep', e', _⟩ := hd'
    exact ⟨.non, upd H a (.dK (mergeK kvs more)), I.write (x := a) (e := a) (t' := s.toks) (by rw [ha]; trivial) (.inl rfl) (fun c u hc hu => (hs'.2 c hc).trans hu) ⟨_, e'⟩ ⟨hz2, lo, _, KV.merge relb rel, hd''⟩, rfl, q⟩
/-- list(d.values()) -/
def tListVals (te : TE) : TE := fun σ H Q => te σ H fun x H1 => ∃ (d : Addr) (kvs : List (Key × V)), x = .ref d ∧ H1 d = some (.dK kvs) ∧ ∀ p, H1 p = none → Q (.ref p) (upd H1 p (.lst (kvs.map (·.2))))
theorem vals_snd : ∀ {kvs : List (Key × V)} {vs : List (Key × Value)}, KV kvs vs → Vals (kvs.map (·.2)) (vs.map (·.2))
  | _, _, .nil => .nil
  | _, _, .cons r t => .cons r.2 (vals_snd t)
variable {e : Expr} {te : TE} {p apos cpos pos : Pos}
theorem pe_listVals (hc : X.calm = true) (he : PE X e te) (hg : Gl X "list") (hm : X.mg "list" = none) (hv : bootBuiltins "list" = some (.type "list")) (hbase : attributeBase e "values" X.env (eval e X.env) = eval e X.env := by rfl) (hline : (apos.endLine == cpos.line) = true := by rfl)
    (hs : starEach [.Call (.Attribute e "values" apos) [] [] cpos] X.env = (false, eval (.Call (.Attribute e "values" apos) [] [] cpos) X.env) :: starEach [] X.env := by rfl) :
    PE X (.Call (.Name "list" p) [.Call (.Attribute e "values" apos) [] [] cpos] [] pos) (tListVals te) := by
  refine ⟨fun pins s σ H Q I hq => ?_⟩
  refine wpAny_Call_Name_kw (ld_blt I hg hm hv ?_)
  refine PyProof.Rows.callWith_type1 ?_ hs rfl
  rw [hs]
  show wpAny _ _ (spliced ((false, eval (.Call (.Attribute e "values" apos) [] [] cpos) X.env) :: backTo pos (starEach [] X.env))) _ _ s
  refine Calls.spliced_cons ?_
  refine wpAny_Call_method (T := "dict") (id := "dict.values") hbase rfl hline F.plainAttrs_dict F.slot_dict_values F.type_dict_values (thn (he.run pins s σ H _ I hq) fun u s1 ⟨x, H1, I1, rx, d, kvs, ex, hd, q⟩ => ?_)
  subst ex
  obtain rfl : u = Value.ref d := rx
  obtain ⟨hz, hs0, vs, kv, hdo⟩ := I1.hok d _ hd
  obtain ⟨ep, hat⟩ := hdo.dictAt
  have lk : kvs.length = vs.length := Paired.length kv
  have I2 : Inv X pins σ H1 { s1 with heap := s1.heap.push { cls := .type "dict_values", data := .fields #[.ref d] } } := I1.kept (t' := s1.toks) fun b ob q => Heap.get?_push_of_some _ q
  refine ⟨hdo.typeIs, hdo.mapOf.noDict, ?_⟩
  show wpAny _ _ (callWith cpos (.builtin "dict.values") [.ref d] [] []) _ X.xe s1
  refine method_meetsIn F.slot_dict_values F.entry_dict_values rfl (PySem.evalArgs_none ⟨rfl, hdo.typeIs, F.args_dict_values_1 _, _, meets_dict_values (mixKind X.prog X.w) d hs0, ⟨vs, hdo⟩, ?_⟩)
  refine Calls.spliced_nil ?_
  have hd1 : (s1.heap.push { cls := .type "dict_values", data := .fields #[.ref d] }).DictAt (mixKind X.prog X.w) d vs ep := hat.push _
  refine PySem.W.kdl_call (PySem.W.kdl_values (knd := mixKind X.prog X.w) (kvs := vs) (ep := ep)) (I1.ok.hd hc) ⟨⟨_, Heap.get?_push_size _ rfl, rfl, rfl⟩, hd1⟩ (by omega) fun h' tk acc c hk hS hacc => ?_
  have hvs : acc.toList = vs.map (·.2) := PySem.W.kdl_vals_eq acc.toList (by rw [Array.length_toList]; exact hacc.1) fun j v e => hacc.2 j v (by rw [← Array.getElem?_toList]; exact e)
  refine ⟨.ref _, upd H1 (s1.heap.push { cls := .type "dict_values", data := .fields #[.ref d] }).objs.size (.lst (kvs.map (·.2))), I2.laid (t' := tk) hk (Nat.le_refl _) ⟨by rw [List.length_map]; exact hz, acc.toList, c, by rw [hvs]; exact vals_snd kv, ?_⟩, rfl, q _ (I2.hok.fresh (Nat.le_refl _))⟩
  rw [Array.toArray_toList]
  exact hS
/-- repr(x), data without dicts -/
def rRepr (K : PySem.W.Frag) : List V → Hp → VK → Prop := fun xs H Q => ∃ (a : Addr) (d : PyData), xs = [.ref a] ∧ Dp K H (.ref a) d ∧ d.showable = true ∧ PyData.layable0 d = true ∧ d.intsShort 13 = true ∧ Q (.str d.shown) H
theorem cr_repr (hg : X.A.guards = some []) (hu : X.A.units + 66 < cLine) : CallR X (.builtin "repr") (rRepr X.K) := by
  intro pins s σ H xs us Q I r h
  obtain ⟨a, d, rfl, hd, hs, hl, hi, q⟩ := h
  obtain ⟨u, rfl, rx⟩ := vals1 r
  cases rx
  obtain ⟨as, rd⟩ := Dp.reads I d (.ref a) _ hd rfl
  have h1 : (PyData.canLay0 d && decide (PyData.depth d ≤ 64) && decide (PyData.weight d ≤ 2 ^ 20)) = true := hl
  simp only [Bool.and_eq_true, decide_eq_true_eq] at h1
  have hz : d.shown.length ≤ sizeLine := Nat.le_trans (shown_le13 hl hi) (by decide)
  exact repr_of_reads' rd hs (PyData.noDict_hsm (PyData.hasDict_of_layable hl)) hg (by omega) (fun _ _ e => e) (fun h' u tk hk => ⟨.str _, H, I.kept hk, ⟨_, rfl⟩, q⟩) hz
end
end Ha

/-! The mirror: a guest's state as plain Lean, and what holds of it. -/
namespace Ha
open PySem PySem.Spec PySem.W
/-! ### sorting texts -/
theorem lt_irr : ∀ a : List Nat, ltCps a a = false
  | [] => rfl
  | x :: r => by
    show (decide (x < x) || (x == x && ltCps r r)) = false
    rw [lt_irr r]
    simp
theorem lt_tr : ∀ a b c : List Nat, ltCps b a = false → ltCps c b = false → ltCps c a = false
  | a, b, [], h1, h2 => by
    cases b with
    | nil => exact h1
    | cons y s => cases h2
  | [], b, z :: t, h1, h2 => rfl
  | x :: r, [], z :: t, h1, h2 => by cases h1
  | x :: r, y :: s, z :: t, h1, h2 => by
    have h1' : (decide (y < x) || (y == x && ltCps s r)) = false := h1
    have h2' : (decide (z < y) || (z == y && ltCps t s)) = false := h2
    show (decide (z < x) || (z == x && ltCps t r)) = false
    rw [Bool.or_eq_false_iff] at *
    obtain ⟨a1, a2⟩ := h1'
    obtain ⟨b1, b2⟩ := h2'
    have a1' : ¬ y < x := of_decide_eq_false a1
    have b1' : ¬ z < y := of_decide_eq_false b1
    refine ⟨decide_eq_false (by omega), ?_⟩
    by_cases e : z = x
    · have e1 : y = x := by omega
      have e2 : z = y := by omega
      subst e1
      subst e2
      rw [beq_self_eq_true, Bool.true_and] at a2 b2 ⊢
      exact lt_tr r s t a2 b2
    · have q : (z == x) = false := by simpa using e
      rw [q, Bool.false_and]
theorem lt_tot : ∀ a b : List Nat, ltCps a b = false → ltCps b a = false → a = b
  | [], [], _, _ => rfl
  | [], _ :: _, h, _ => by cases h
  | _ :: _, [], _, h => by cases h
  | x :: r, y :: s, h1, h2 => by
    have h1' : (decide (x < y) || (x == y && ltCps r s)) = false := h1
    have h2' : (decide (y < x) || (y == x && ltCps s r)) = false := h2
    rw [Bool.or_eq_false_iff] at *
    have a1 : ¬ x < y := of_decide_eq_false h1'.1
    have b1 : ¬ y < x := of_decide_eq_false h2'.1
    have e : x = y := by omega
    subst e
    have a2 := h1'.2
    have b2 := h2'.2
    rw [beq_self_eq_true, Bool.true_and] at a2 b2
    rw [lt_tot r s a2 b2]
theorem lt_or : ∀ a b : List Nat, ltCps a b = false ∨ ltCps b a = false
  | [], [] => .inl rfl
  | [], _ :: _ => .inr rfl
  | _ :: _, [] => .inl rfl
  | x :: r, y :: s => by
    show (decide (x < y) || (x == y && ltCps r s)) = false ∨ (decide (y < x) || (y == x && ltCps s r)) = false
    by_cases h1 : x < y
    · right
      rw [Bool.or_eq_false_iff]
      refine ⟨decide_eq_false (by omega), ?_⟩
      have q : (y == x) = false := by simp; omega
      rw [q, Bool.false_and]
    · by_cases h2 : y < x
      · left
        rw [Bool.or_eq_false_iff]
        refine ⟨decide_eq_false (by omega), ?_⟩
        have q : (x == y) = false := by simp; omega
        rw [q, Bool.false_and]
      · have e : x = y := by omega
        subst e
        rcases lt_or r s with h | h
        · left
          rw [Bool.or_eq_false_iff]
          exact ⟨decide_eq_false h1, by rw [h, Bool.and_false]⟩
        · right
          rw [Bool.or_eq_false_iff]
          exact ⟨decide_eq_false h1, by rw [h, Bool.and_false]⟩
def leS (a b : Str) : Bool := !ltCps b.cps.toList a.cps.toList
theorem leS_trans (a b c : Str) (h1 : leS a b = true) (h2 : leS b c = true) : leS a c = true := by
  unfold leS at *
  rw [Bool.not_eq_true'] at *
  exact lt_tr _ _ _ h1 h2
theorem leS_total (a b : Str) : (leS a b || leS b a) = true := by
  unfold leS
  rcases lt_or b.cps.toList a.cps.toList with h | h
  · rw [h] <;> rfl
  · rw [h, Bool.or_comm] <;> rfl
theorem leS_anti (a b : Str) (h1 : leS a b = true) (h2 : leS b a = true) : a = b := by
  unfold leS at *
  rw [Bool.not_eq_true'] at *
  exact PyProof.Rows.ext_toList (lt_tot _ _ h2 h1)
def srt (xs : List Str) : List Str := xs.mergeSort leS
theorem rising_pw : ∀ (p : Str) (l : List Str), PyProof.Rows.risingS p l = true → (p :: l).Pairwise (fun a b => leS a b = true)
  | p, [], _ => by simp
  | p, x :: r, h => by
    have h' : (!ltCps x.cps.toList p.cps.toList && PyProof.Rows.risingS x r) = true := h
    rw [Bool.and_eq_true] at h'
    have ih := rising_pw x r h'.2
    rw [List.pairwise_cons]
    refine ⟨fun y hy => ?_, ih⟩
    rcases List.mem_cons.mp hy with e | hy
    · rw [e]
      exact h'.1
    · exact leS_trans p x y h'.1 ((List.pairwise_cons.mp ih).1 y hy)
theorem sorted_pw : ∀ l : List Str, PyProof.Rows.sortedS l = true → l.Pairwise (fun a b => leS a b = true)
  | [], _ => .nil
  | x :: r, h => rising_pw x r h
/-- the sorted list is one -/
theorem srt_of {ys xs : List Str} (hp : ys.Perm xs) (hs : PyProof.Rows.sortedS ys = true) : ys = srt xs :=
  Srt.the_of_perm leS leS_trans leS_total leS_anti hp (sorted_pw ys hs)
theorem srt_perm (xs : List Str) : (srt xs).Perm xs := List.mergeSort_perm xs leS
theorem srt_congr {xs ys : List Str} (h : xs.Perm ys) : srt xs = srt ys :=
  Srt.the_of_perm leS leS_trans leS_total leS_anti ((srt_perm xs).trans h) (List.pairwise_mergeSort leS_trans leS_total xs)
theorem srt_srt (xs : List Str) : srt (srt xs) = srt xs := srt_congr (srt_perm xs)
theorem srt_len (xs : List Str) : (srt xs).length = xs.length := (srt_perm xs).length_eq
theorem srt_mem {x : Str} {xs : List Str} : x ∈ srt xs ↔ x ∈ xs := (srt_perm xs).mem_iff
theorem srt_nodup {xs : List Str} : (srt xs).Nodup ↔ xs.Nodup := (srt_perm xs).nodup_iff
theorem srt_nil : srt [] = [] := by
  unfold srt
  exact List.mergeSort_nil
theorem srt_filter (p : Str → Bool) {xs : List Str} (h : srt xs = xs) : srt (xs.filter p) = xs.filter p :=
  (Srt.the_of_perm leS leS_trans leS_total leS_anti (List.Perm.refl _) ((h ▸ List.pairwise_mergeSort leS_trans leS_total xs : xs.Pairwise (fun a b => leS a b = true)).filter p)).symm
/-! ### the state -/
structure G where
  own : Str
  wished : Bool
  near : List (Str × Option (Str × Nat))
  ears : Nat
  mark : Option Str
  since : Nat
  opened : Bool
  source : Option Str
  knows : List Str
  waits : List Str
  debts : List Str
  seats : List Str
  past : List (Option Str × Option Str)
  going : List (Str × List Str)
def wIn : Str := "in"
def wOut : Str := "out"
def wClear : Str := "clear"
def wBarred : Str := "barred"
def wWord : Str := "word"
def lOpen : List Str := ["open"]
def lHeard : List Str := ["heard"]
def lChair : List Str := ["chair"]
def lBack : List Str := ["back"]
def lWord (w : Str) : List Str := ["word", w]
def G.keys (g : G) : List Str := g.near.map (·.1)
def nearAt : List (Str × Option (Str × Nat)) → Str → Option (Str × Nat)
  | [], _ => none
  | (k, t) :: r, h => if k = h then t else nearAt r h
def nearSet (l : List (Str × Option (Str × Nat))) (h : Str) (t : Option (Str × Nat)) : List (Str × Option (Str × Nat)) := l.map fun p => if p.1 = h then (p.1, t) else p
def nearDrop (l : List (Str × Option (Str × Nat))) (h : Str) : List (Str × Option (Str × Nat)) := l.filter fun p => decide (p.1 ≠ h)
def tellW (ahead : Bool) (since : Nat) : Option (Str × Nat) → Option Str
  | none => none
  | some (w, n) => if (!ahead || decide (n ≤ since)) = true then some w else none
def words (g : G) (ahead : Bool) : List (Option Str) := (srt g.keys).map fun h => tellW ahead g.since (nearAt g.near h)
def givenW (wished : Bool) (ws : List (Option Str)) : Option Str :=
  if wished = false ∨ some wBarred ∈ ws then some wOut else if ws.countP (fun o => decide (o = some wClear)) = ws.length then some wIn else none
def given (g : G) (ahead : Bool) : Option Str := givenW g.wished (words g ahead)
def tell (g : G) (h : Str) (l : List Str) : G := { g with going := g.going ++ [(h, l)] }
def tellAll (g : G) (hs : List Str) (l : List Str) : G := { g with going := g.going ++ hs.map fun h => (h, l) }
def settle (g : G) (w : Str) : G :=
  tellAll { g with mark := some w, since := g.ears, past := g.past ++ [(some w, none)], knows := srt g.keys } (srt g.keys) (lWord w)
/-- a look where it has no word and is not open -/
def lookN (g : G) : G := match given g false with
  | some w => settle g w
  | none => g
def close2 (g : G) : G := if g.mark ≠ some wIn then { tellAll g (srt g.seats) lBack with seats := [] } else g
def close1 (g : G) : G := close2 { tellAll g (srt g.debts) lHeard with debts := [] }
def close (g : G) : G := close1 (lookN { g with opened := false, source := none })
def giveUp1 (g : G) (c : Option Str) : G :=
  tellAll { g with mark := none, opened := true, source := c, past := g.past ++ [(none, c)], waits := g.knows, knows := [] } g.knows lOpen
def giveUp (g : G) (c : Option Str) : G := if g.knows = [] then close (giveUp1 g c) else giveUp1 g c
def look (g : G) (c : Option Str) : G :=
  if g.opened = true then g else
  match g.mark with
  | none => lookN g
  | some m => if given g true = some m then g else giveUp g c
def answered (g : G) (h : Str) : G :=
  if (g.waits.filter fun x => decide (x ≠ h)) = [] then close { g with waits := g.waits.filter fun x => decide (x ≠ h) } else { g with waits := g.waits.filter fun x => decide (x ≠ h) }
def gone (g : G) : G := { g with going := [] }
inductive What where
  | wish | unwish | join (h : Str) | part (h : Str) | hear (h : Str) (l : List Str)
def joinA (g : G) (h : Str) : G := look { g with near := g.near ++ [(h, none)] } none
def joinB (g : G) (h : Str) : G := match g.mark with
  | none => g
  | some m => if h ∈ g.knows then g else tell { g with knows := srt (g.knows ++ [h]) } h (lWord m)
def partA (g : G) (h : Str) : G :=
  { g with near := nearDrop g.near h, knows := g.knows.filter fun x => decide (x ≠ h), debts := g.debts.filter fun x => decide (x ≠ h), seats := g.seats.filter fun x => decide (x ≠ h), source := if g.source = some h then none else g.source }
def partB (g : G) (h : Str) : G := if h ∈ g.waits then answered g h else g
def hearWord (g : G) (h w : Str) : G := look { g with ears := g.ears + 1, near := nearSet g.near h (some (w, g.ears + 1)) } (some h)
def hearOpenA (g : G) (h : Str) : G := look { g with near := nearSet g.near h none } (some h)
def hearOpenB (was : Bool) (g : G) (h : Str) : G := if g.opened = true ∧ was = false then { g with debts := g.debts ++ [h] } else tell g h lHeard
def hearChair (g : G) (h : Str) : G := if g.mark = some wIn ∨ g.opened = true then { g with seats := g.seats ++ [h] } else tell g h lBack
/-- what a deed or a hearing leaves, letters and all; none where it is refused -/
def stepH (g : G) (h : Str) (l : List Str) : Option G :=
  if h ∉ g.keys then none
  else if l = lWord wClear ∨ l = lWord wBarred then
    (if nearAt g.near h ≠ none ∨ h ∈ g.debts then none else some (hearWord g h (l.getD 1 "")))
  else if l = lOpen then (if nearAt g.near h = none then none else some (hearOpenB g.opened (hearOpenA g h) h))
  else if l = lHeard then (if h ∈ g.waits then some (answered g h) else none)
  else if l = lChair then (if h ∈ g.seats then none else some (hearChair g h))
  else none
def stepR (g : G) : What → Option G
  | .wish => if g.wished = true then none else some (look { g with wished := true } none)
  | .unwish => if g.wished = true then some (look { g with wished := false } none) else none
  | .join h => if h = g.own ∨ h ∈ g.keys then none else some (joinB (joinA g h) h)
  | .part h => if h ∈ g.keys then some (partB (look (partA g h) none) h) else none
  | .hear h l => stepH g h l
end Ha

/-! What holds of the mirror at every step. -/
namespace Ha
open PySem PySem.Spec PySem.W
/-- a name's text -/
def Nm (x : Str) : Prop := 1 ≤ x.cps.toList.length ∧ x.cps.toList.length ≤ 8 ∧ ∀ c ∈ x.cps.toList, 97 ≤ c ∧ c ≤ 122
def goodL (l : List Str) : Prop := l = lOpen ∨ l = lHeard ∨ l = lBack ∨ l = lWord wIn ∨ l = lWord wOut
structure Base (g : G) : Prop where
  nd : g.keys.Nodup
  num : ∀ p ∈ g.near, ∀ w n, p.2 = some (w, n) → n ≤ g.ears ∧ (w = wClear ∨ w = wBarred)
  ks : srt g.knows = g.knows
  kn : g.knows.Nodup
  nN : ∀ h ∈ g.keys, Nm h
  nK : ∀ h ∈ g.knows, Nm h
  nW : ∀ h ∈ g.waits, Nm h
  nD : ∀ h ∈ g.debts, Nm h
  nS : ∀ h ∈ g.seats, Nm h
  nC : ∀ h, g.source = some h → Nm h
  mw : ∀ m, g.mark = some m → m = wIn ∨ m = wOut
  nP : ∀ p ∈ g.past, (∀ m, p.1 = some m → m = wIn ∨ m = wOut) ∧ ∀ c, p.2 = some c → Nm c
  nG : ∀ q ∈ g.going, Nm q.1 ∧ goodL q.2
  wn : g.waits.Nodup
structure Ok (g : G) : Prop extends Base g where
  op1 : g.opened = true → g.mark = none
  op2 : g.opened = true ↔ g.waits ≠ []
structure Fit (t p q : Nat) (g : G) : Prop where
  n : g.near.length ≤ t
  k : g.knows.length ≤ t
  w : g.waits.length ≤ t
  d : g.debts.length ≤ t
  s : g.seats.length ≤ t
  pa : g.past.length ≤ p
  go : g.going.length ≤ q
theorem Fit.mono {t p q t' p' q' : Nat} {g : G} (f : Fit t p q g) (h1 : t ≤ t') (h2 : p ≤ p') (h3 : q ≤ q') : Fit t' p' q' g :=
  ⟨Nat.le_trans f.n h1, Nat.le_trans f.k h1, Nat.le_trans f.w h1, Nat.le_trans f.d h1, Nat.le_trans f.s h1, Nat.le_trans f.pa h2, Nat.le_trans f.go h3⟩
theorem given_in {g : G} {a : Bool} {w : Str} (h : given g a = some w) : w = wIn ∨ w = wOut := by
  unfold given givenW at h
  split at h
  · exact .inr (Option.some.inj h).symm
  · split at h
    · exact .inl (Option.some.inj h).symm
    · cases h
theorem keys_len (g : G) : g.keys.length = g.near.length := List.length_map ..
theorem base_tellAll {g : G} {hs : List Str} {l : List Str} (b : Base g) (h1 : ∀ h ∈ hs, Nm h) (h2 : goodL l) : Base (tellAll g hs l) :=
  { b with nG := (fun q hq => by
      rcases List.mem_append.mp hq with hq | hq
      · exact b.nG q hq
      · obtain ⟨x, hx, e⟩ := List.mem_map.mp hq
        rw [← e]
        exact ⟨h1 x hx, h2⟩) }
theorem base_tell {g : G} {h : Str} {l : List Str} (b : Base g) (h1 : Nm h) (h2 : goodL l) : Base (tell g h l) :=
  { b with nG := (fun q hq => by
      rcases List.mem_append.mp hq with hq | hq
      · exact b.nG q hq
      · have e := List.mem_singleton.mp hq
        rw [e]
        exact ⟨h1, h2⟩) }
theorem fit_tellAll {t p q : Nat} {g : G} {hs : List Str} {l : List Str} (f : Fit t p q g) (h : hs.length ≤ t) : Fit t p (q + t) (tellAll g hs l) :=
  { f with go := (by
      show (g.going ++ hs.map _).length ≤ q + t
      rw [List.length_append, List.length_map]
      have := f.go
      omega) }
theorem fit_tell {t p q : Nat} {g : G} {h : Str} {l : List Str} (f : Fit t p q g) : Fit t p (q + 1) (tell g h l) :=
  { f with go := (by
      show (g.going ++ [(h, l)]).length ≤ q + 1
      rw [List.length_append]
      have := f.go
      simp
      omega) }
theorem base_settle {g : G} {w : Str} (b : Base g) (hw : w = wIn ∨ w = wOut) : Base (settle g w) := by
  unfold settle
  refine base_tellAll (g := { g with mark := some w, since := g.ears, past := g.past ++ [(some w, none)], knows := srt g.keys })
    { b with ks := srt_srt _, kn := srt_nodup.mpr b.nd, nK := fun h hh => b.nN h (srt_mem.mp hh), mw := fun m e => ?_, nP := fun p hp => ?_ } (fun h hh => b.nN h (srt_mem.mp hh)) ?_
  · have e' : w = m := Option.some.inj e
    rw [← e']
    exact hw
  · rcases List.mem_append.mp hp with hp | hp
    · exact b.nP p hp
    · rw [List.mem_singleton.mp hp]
      refine ⟨fun m e => ?_, (fun c e => nomatch e)⟩
      have e' : w = m := Option.some.inj e
      rw [← e']
      exact hw
  · rcases hw with rfl | rfl
    · exact .inr (.inr (.inr (.inl rfl)))
    · exact .inr (.inr (.inr (.inr rfl)))
theorem fit_settle {t p q : Nat} {g : G} {w : Str} (f : Fit t p q g) : Fit t (p + 1) (q + t) (settle g w) := by
  have hk : (srt g.keys).length ≤ t := by
    rw [srt_len, keys_len]
    exact f.n
  unfold settle
  refine fit_tellAll (g := { g with mark := some w, since := g.ears, past := g.past ++ [(some w, none)], knows := srt g.keys }) { f with k := hk, pa := ?_ } hk
  show (g.past ++ [(some w, none)]).length ≤ p + 1
  rw [List.length_append]
  have := f.pa
  simp
  omega
theorem base_lookN {g : G} (b : Base g) : Base (lookN g) := by
  unfold lookN
  split
  · rename_i w h
    exact base_settle b (given_in h)
  · exact b
theorem fit_lookN {t p q : Nat} {g : G} (f : Fit t p q g) : Fit t (p + 1) (q + t) (lookN g) := by
  unfold lookN
  split
  · exact fit_settle f
  · exact f.mono (Nat.le_refl _) (Nat.le_succ _) (by omega)
/-- what a look where it has no word leaves as it was -/
theorem lookN_rest (g : G) : (lookN g).opened = g.opened ∧ (lookN g).waits = g.waits ∧ (lookN g).near = g.near ∧ (lookN g).debts = g.debts ∧ (lookN g).seats = g.seats ∧ (lookN g).own = g.own ∧ (lookN g).wished = g.wished ∧ (lookN g).ears = g.ears ∧ (lookN g).source = g.source := by
  unfold lookN
  split
  · exact ⟨rfl, rfl, rfl, rfl, rfl, rfl, rfl, rfl, rfl⟩
  · exact ⟨rfl, rfl, rfl, rfl, rfl, rfl, rfl, rfl, rfl⟩
theorem base_close2 {g : G} (b : Base g) : Base (close2 g) := by
  unfold close2
  split
  · exact { base_tellAll b (fun h hh => b.nS h (srt_mem.mp hh)) (.inr (.inr (.inl rfl))) with nS := fun h hh => nomatch hh }
  · exact b
theorem base_close1 {g : G} (b : Base g) : Base (close1 g) := by
  unfold close1
  exact base_close2 { base_tellAll b (fun h hh => b.nD h (srt_mem.mp hh)) (.inr (.inl rfl)) with nD := fun h hh => nomatch hh }
theorem base_close {g : G} (b : Base g) : Base (close g) := by
  unfold close
  exact base_close1 (base_lookN { b with nC := fun h e => nomatch e })
theorem fit_close2 {t p q : Nat} {g : G} (f : Fit t p q g) : Fit t p (q + t) (close2 g) := by
  unfold close2
  split
  · exact { fit_tellAll (l := lBack) f (by rw [srt_len]; exact f.s) with s := Nat.zero_le _ }
  · exact f.mono (Nat.le_refl _) (Nat.le_refl _) (by omega)
theorem fit_close1 {t p q : Nat} {g : G} (f : Fit t p q g) : Fit t p (q + 2 * t) (close1 g) := by
  unfold close1
  have f0 := fit_tellAll (hs := srt g.debts) (l := lHeard) f (by rw [srt_len]; exact f.d)
  have f1 : Fit t p (q + t) { tellAll g (srt g.debts) lHeard with debts := [] } := { f0 with d := Nat.zero_le _ }
  exact (fit_close2 f1).mono (Nat.le_refl _) (Nat.le_refl _) (by omega)
theorem fit_close {t p q : Nat} {g : G} (f : Fit t p q g) : Fit t (p + 1) (q + 3 * t) (close g) := by
  unfold close
  have f1 : Fit t p q { g with opened := false, source := none } := { f with }
  exact (fit_close1 (fit_lookN f1)).mono (Nat.le_refl _) (Nat.le_refl _) (by omega)
theorem close2_rest (g : G) : (close2 g).opened = g.opened ∧ (close2 g).waits = g.waits ∧ (close2 g).mark = g.mark ∧ (close2 g).near = g.near ∧ (close2 g).debts = g.debts ∧ (close2 g).knows = g.knows ∧ (close2 g).ears = g.ears ∧ (close2 g).wished = g.wished ∧ (close2 g).own = g.own ∧ (close2 g).since = g.since := by
  unfold close2
  split
  · exact ⟨rfl, rfl, rfl, rfl, rfl, rfl, rfl, rfl, rfl, rfl⟩
  · exact ⟨rfl, rfl, rfl, rfl, rfl, rfl, rfl, rfl, rfl, rfl⟩
theorem close_rest (g : G) : (close g).opened = false ∧ (close g).waits = g.waits ∧ (close g).near = g.near ∧ (close g).own = g.own := by
  unfold close close1
  have h := close2_rest { tellAll (lookN { g with opened := false, source := none }) (srt (lookN { g with opened := false, source := none }).debts) lHeard with debts := [] }
  have l := lookN_rest { g with opened := false, source := none }
  refine ⟨h.1.trans l.1, h.2.1.trans l.2.1, h.2.2.2.1.trans l.2.2.1, ?_⟩
  exact h.2.2.2.2.2.2.2.2.1.trans l.2.2.2.2.2.1
theorem ok_close {g : G} (b : Base g) (hw : g.waits = []) : Ok (close g) := by
  have c := close_rest g
  exact { base_close b with op1 := (fun e => by rw [c.1] at e; cases e), op2 := (by rw [c.1, c.2.1, hw]; simp) }
theorem base_giveUp1 {g : G} {c : Option Str} (b : Base g) (hc : ∀ h, c = some h → Nm h) : Base (giveUp1 g c) := by
  unfold giveUp1
  refine base_tellAll (g := { g with mark := none, opened := true, source := c, past := g.past ++ [(none, c)], waits := g.knows, knows := [] })
    { b with ks := srt_nil, kn := List.nodup_nil, nK := (fun h hh => nomatch hh), nW := b.nK, nC := hc, mw := (fun m e => nomatch e), wn := b.kn, nP := fun p hp => ?_ } b.nK (.inl rfl)
  rcases List.mem_append.mp hp with hp | hp
  · exact b.nP p hp
  · rw [List.mem_singleton.mp hp]
    exact ⟨(fun m e => nomatch e), hc⟩
theorem fit_giveUp1 {t p q : Nat} {g : G} {c : Option Str} (f : Fit t p q g) : Fit t (p + 1) (q + t) (giveUp1 g c) := by
  unfold giveUp1
  refine fit_tellAll (g := { g with mark := none, opened := true, source := c, past := g.past ++ [(none, c)], waits := g.knows, knows := [] }) { f with k := Nat.zero_le _, w := f.k, pa := ?_ } f.k
  show (g.past ++ [(none, c)]).length ≤ p + 1
  rw [List.length_append]
  have := f.pa
  simp
  omega
theorem ok_giveUp {g : G} {c : Option Str} (b : Base g) (hc : ∀ h, c = some h → Nm h) : Ok (giveUp g c) := by
  unfold giveUp
  split
  · rename_i h
    exact ok_close (base_giveUp1 b hc) h
  · rename_i h
    exact { base_giveUp1 b hc with op1 := fun _ => rfl, op2 := ⟨fun _ => h, fun _ => rfl⟩ }
theorem fit_giveUp {t p q : Nat} {g : G} {c : Option Str} (f : Fit t p q g) : Fit t (p + 2) (q + 4 * t) (giveUp g c) := by
  unfold giveUp
  split
  · exact (fit_close (fit_giveUp1 f)).mono (Nat.le_refl _) (Nat.le_refl _) (by omega)
  · exact (fit_giveUp1 f).mono (Nat.le_refl _) (by omega) (by omega)
theorem ok_look {g : G} {c : Option Str} (b : Ok g) (hc : ∀ h, c = some h → Nm h) : Ok (look g c) := by
  unfold look
  split
  · exact b
  · rename_i ho
    have ho' : g.opened = false := by simpa using ho
    have hw : g.waits = [] := by
      by_cases e : g.waits = []
      · exact e
      · exact absurd (b.op2.mpr e) ho
    split
    · have l := lookN_rest g
      exact { base_lookN b.toBase with op1 := (fun e => by rw [l.1] at e; exact absurd e ho), op2 := by rw [l.1, l.2.1]; exact b.op2 }
    · split
      · exact b
      · exact ok_giveUp b.toBase hc
theorem fit_look {t p q : Nat} {g : G} {c : Option Str} (f : Fit t p q g) : Fit t (p + 2) (q + 4 * t) (look g c) := by
  unfold look
  split
  · exact f.mono (Nat.le_refl _) (by omega) (by omega)
  · split
    · exact (fit_lookN f).mono (Nat.le_refl _) (by omega) (by omega)
    · split
      · exact f.mono (Nat.le_refl _) (by omega) (by omega)
      · exact fit_giveUp f
theorem ok_answered {g : G} {h : Str} (b : Ok g) (hh : h ∈ g.waits) : Ok (answered g h) := by
  have hne : g.waits ≠ [] := fun e => by rw [e] at hh; cases hh
  have ho := b.op2.mpr hne
  have b1 : Base { g with waits := g.waits.filter fun x => decide (x ≠ h) } :=
    { b.toBase with nW := (fun x hx => b.nW x (List.mem_filter.mp hx).1), wn := b.wn.filter _ }
  unfold answered
  split
  · rename_i e
    exact ok_close b1 e
  · rename_i e
    exact { b1 with op1 := b.op1, op2 := ⟨fun _ => e, fun _ => ho⟩ }
theorem fit_answered {t p q : Nat} {g : G} {h : Str} (f : Fit t p q g) : Fit t (p + 1) (q + 3 * t) (answered g h) := by
  have f1 : Fit t p q { g with waits := g.waits.filter fun x => decide (x ≠ h) } := { f with w := Nat.le_trans (List.length_filter_le _ _) f.w }
  unfold answered
  split
  · exact fit_close f1
  · exact f1.mono (Nat.le_refl _) (by omega) (by omega)
/-! ### near -/
theorem set_keys (l : List (Str × Option (Str × Nat))) (h : Str) (t : Option (Str × Nat)) : (nearSet l h t).map Prod.fst = l.map Prod.fst := by
  unfold nearSet
  rw [List.map_map]
  refine List.map_congr_left fun p _ => ?_
  show (if p.1 = h then (p.1, t) else p).1 = p.1
  split <;> rfl
theorem set_mem {l : List (Str × Option (Str × Nat))} {h : Str} {t : Option (Str × Nat)} {p : Str × Option (Str × Nat)} (hp : p ∈ nearSet l h t) : p ∈ l ∨ p.2 = t := by
  obtain ⟨q, hq, e⟩ := List.mem_map.mp hp
  split at e
  · rw [← e]
    exact .inr rfl
  · rw [← e]
    exact .inl hq
theorem set_len (l : List (Str × Option (Str × Nat))) (h : Str) (t : Option (Str × Nat)) : (nearSet l h t).length = l.length := List.length_map ..
theorem drop_keys (l : List (Str × Option (Str × Nat))) (h : Str) : (nearDrop l h).map Prod.fst = (l.map Prod.fst).filter fun x => decide (x ≠ h) := by
  unfold nearDrop
  rw [List.filter_map]
  rfl
/-! ### a step -/
theorem ok_joinA {g : G} {h : Str} (b : Ok g) (hn : Nm h) (hk : h ∉ g.keys) : Ok (joinA g h) := by
  refine ok_look (g := { g with near := g.near ++ [(h, none)] }) { b with nd := ?_, num := ?_, nN := ?_ } (fun _ e => nomatch e)
  · show ((g.near ++ [(h, none)]).map Prod.fst).Nodup
    rw [List.map_append, List.nodup_append]
    refine ⟨b.nd, by simp, fun a ha c hc => ?_⟩
    have e : c = h := by simpa using hc
    rw [e]
    exact fun z => hk (z ▸ ha)
  · intro p hp w n e
    rcases List.mem_append.mp hp with hp | hp
    · exact b.num p hp w n e
    · rw [List.mem_singleton.mp hp] at e
      cases e
  · intro x hx
    have hx' : x ∈ (g.near ++ [(h, none)]).map Prod.fst := hx
    rw [List.map_append] at hx'
    rcases List.mem_append.mp hx' with hx' | hx'
    · exact b.nN x hx'
    · have e : x = h := by simpa using hx'
      rw [e]
      exact hn
theorem ok_joinB {g : G} {h : Str} (b : Ok g) (hn : Nm h) : Ok (joinB g h) := by
  unfold joinB
  split
  · exact b
  · rename_i m hm
    split
    · exact b
    · rename_i hk
      have hl : goodL (lWord m) := by
        rcases b.mw m hm with rfl | rfl
        · exact .inr (.inr (.inr (.inl rfl)))
        · exact .inr (.inr (.inr (.inr rfl)))
      have k1 : (srt (g.knows ++ [h])).Nodup := by
        rw [srt_nodup, List.nodup_append]
        refine ⟨b.kn, by simp, fun a ha c hc => ?_⟩
        have e : c = h := by simpa using hc
        rw [e]
        exact fun z => hk (z ▸ ha)
      have k2 : ∀ x ∈ srt (g.knows ++ [h]), Nm x := fun x hx => by
        rcases List.mem_append.mp (srt_mem.mp hx) with hx | hx
        · exact b.nK x hx
        · have e : x = h := by simpa using hx
          rw [e]
          exact hn
      have b1 : Base { g with knows := srt (g.knows ++ [h]) } := { b.toBase with ks := srt_srt _, kn := k1, nK := k2 }
      exact { base_tell b1 hn hl with op1 := b.op1, op2 := b.op2 }
theorem ok_partA {g : G} {h : Str} (b : Ok g) : Ok (partA g h) :=
  { b with
    nd := (by
      show ((nearDrop g.near h).map Prod.fst).Nodup
      rw [drop_keys]
      exact b.nd.filter _)
    num := (fun p hp => b.num p (List.mem_filter.mp hp).1)
    ks := srt_filter _ b.ks
    kn := b.kn.filter _
    nN := (fun x hx => by
      have hx' : x ∈ (nearDrop g.near h).map Prod.fst := hx
      rw [drop_keys] at hx'
      exact b.nN x (List.mem_filter.mp hx').1)
    nK := (fun x hx => b.nK x (List.mem_filter.mp hx).1)
    nD := (fun x hx => b.nD x (List.mem_filter.mp hx).1)
    nS := (fun x hx => b.nS x (List.mem_filter.mp hx).1)
    nC := (fun x e => by
      have e' : (if g.source = some h then none else g.source) = some x := e
      split at e'
      · cases e'
      · exact b.nC x e') }
theorem ok_partB {g : G} {h : Str} (b : Ok g) : Ok (partB g h) := by
  unfold partB
  split
  · rename_i hh
    exact ok_answered b hh
  · exact b
theorem ok_stepH {g g' : G} {h : Str} {l : List Str} (b : Ok g) (hn : Nm h) (e : stepH g h l = some g') : Ok g' := by
  unfold stepH at e
  split at e
  · cases e
  · split at e
    · rename_i hl
      split at e
      · cases e
      · rw [← Option.some.inj e]
        refine ok_look (g := { g with ears := g.ears + 1, near := nearSet g.near h (some (l.getD 1 "", g.ears + 1)) }) { b with nd := ?_, num := ?_, nN := ?_ } (fun x e => by rw [← Option.some.inj e]; exact hn)
        · show ((nearSet g.near h _).map Prod.fst).Nodup
          rw [set_keys]
          exact b.nd
        · intro p hp w n ep
          rcases set_mem hp with hp | hp
          · have := b.num p hp w n ep
            exact ⟨Nat.le_succ_of_le this.1, this.2⟩
          · rw [hp] at ep
            have e1 := Option.some.inj ep
            have e2 : l.getD 1 "" = w := congrArg Prod.fst e1
            have e3 : g.ears + 1 = n := congrArg Prod.snd e1
            refine ⟨Nat.le_of_eq e3.symm, ?_⟩
            rw [← e2]
            rcases hl with hl | hl
            · rw [hl]
              exact .inl rfl
            · rw [hl]
              exact .inr rfl
        · intro x hx
          have hx' : x ∈ (nearSet g.near h _).map Prod.fst := hx
          rw [set_keys] at hx'
          exact b.nN x hx'
    · split at e
      · split at e
        · cases e
        · rw [← Option.some.inj e]
          have b1 : Ok (hearOpenA g h) := by
            refine ok_look (g := { g with near := nearSet g.near h none }) { b with nd := ?_, num := ?_, nN := ?_ } (fun x e => by rw [← Option.some.inj e]; exact hn)
            · show ((nearSet g.near h none).map Prod.fst).Nodup
              rw [set_keys]
              exact b.nd
            · intro p hp w n ep
              rcases set_mem hp with hp | hp
              · exact b.num p hp w n ep
              · rw [hp] at ep
                cases ep
            · intro x hx
              have hx' : x ∈ (nearSet g.near h none).map Prod.fst := hx
              rw [set_keys] at hx'
              exact b.nN x hx'
          unfold hearOpenB
          split
          · exact { b1 with nD := (fun x hx => by
              rcases List.mem_append.mp hx with hx | hx
              · exact b1.nD x hx
              · have e : x = h := by simpa using hx
                rw [e]
                exact hn) }
          · exact { base_tell b1.toBase hn (.inr (.inl rfl)) with op1 := b1.op1, op2 := b1.op2 }
      · split at e
        · split at e
          · rename_i hh
            rw [← Option.some.inj e]
            exact ok_answered b hh
          · cases e
        · split at e
          · split at e
            · cases e
            · rw [← Option.some.inj e]
              unfold hearChair
              split
              · exact { b with nS := (fun x hx => by
                  rcases List.mem_append.mp hx with hx | hx
                  · exact b.nS x hx
                  · have e : x = h := by simpa using hx
                    rw [e]
                    exact hn) }
              · exact { base_tell b.toBase hn (.inr (.inr (.inl rfl))) with op1 := b.op1, op2 := b.op2 }
          · cases e
def What.house : What → Option Str
  | .wish => none
  | .unwish => none
  | .join h => some h
  | .part h => some h
  | .hear h _ => some h
theorem ok_step {g g' : G} {w : What} (b : Ok g) (hn : ∀ h, w.house = some h → Nm h) (e : stepR g w = some g') : Ok g' := by
  cases w with
  | wish =>
    have e : (if g.wished = true then none else some (look { g with wished := true } none)) = some g' := e
    split at e
    · cases e
    · rw [← Option.some.inj e]
      exact ok_look (g := { g with wished := true }) { b with } (fun _ e => nomatch e)
  | unwish =>
    have e : (if g.wished = true then some (look { g with wished := false } none) else none) = some g' := e
    split at e
    · rw [← Option.some.inj e]
      exact ok_look (g := { g with wished := false }) { b with } (fun _ e => nomatch e)
    · cases e
  | join h =>
    have e : (if h = g.own ∨ h ∈ g.keys then none else some (joinB (joinA g h) h)) = some g' := e
    split at e
    · cases e
    · rename_i hh
      rw [← Option.some.inj e]
      exact ok_joinB (ok_joinA b (hn h rfl) fun z => hh (.inr z)) (hn h rfl)
  | part h =>
    have e : (if h ∈ g.keys then some (partB (look (partA g h) none) h) else none) = some g' := e
    split at e
    · rw [← Option.some.inj e]
      exact ok_partB (ok_look (ok_partA b) fun _ e => nomatch e)
    · cases e
  | hear h l => exact ok_stepH b (hn h rfl) e
theorem fit_joinB {t p q : Nat} {g : G} {h : Str} (f : Fit t p q g) : Fit (t + 1) p (q + 1) (joinB g h) := by
  unfold joinB
  split
  · exact f.mono (by omega) (Nat.le_refl _) (by omega)
  · split
    · exact f.mono (by omega) (Nat.le_refl _) (by omega)
    · have f1 := f.mono (Nat.le_succ t) (Nat.le_refl p) (Nat.le_refl q)
      refine fit_tell (t := t + 1) (g := { g with knows := srt (g.knows ++ [h]) }) { f1 with k := ?_ }
      show (srt (g.knows ++ [h])).length ≤ t + 1
      rw [srt_len, List.length_append]
      have := f.k
      simp
      omega
theorem fit_partA {t p q : Nat} {g : G} {h : Str} (f : Fit t p q g) : Fit t p q (partA g h) :=
  { f with n := Nat.le_trans (List.length_filter_le _ _) f.n, k := Nat.le_trans (List.length_filter_le _ _) f.k, d := Nat.le_trans (List.length_filter_le _ _) f.d, s := Nat.le_trans (List.length_filter_le _ _) f.s }
theorem fit_partB {t p q : Nat} {g : G} {h : Str} (f : Fit t p q g) : Fit t (p + 1) (q + 3 * t) (partB g h) := by
  unfold partB
  split
  · exact fit_answered f
  · exact f.mono (Nat.le_refl _) (by omega) (by omega)
theorem fit_hearWord {t p q : Nat} {g : G} {h w : Str} (f : Fit t p q g) : Fit t (p + 2) (q + 4 * t) (hearWord g h w) :=
  fit_look (g := { g with ears := g.ears + 1, near := nearSet g.near h (some (w, g.ears + 1)) }) { f with n := (by show (nearSet g.near h _).length ≤ t; rw [set_len]; exact f.n) }
theorem fit_hearOpenA {t p q : Nat} {g : G} {h : Str} (f : Fit t p q g) : Fit t (p + 2) (q + 4 * t) (hearOpenA g h) :=
  fit_look (g := { g with near := nearSet g.near h none }) { f with n := (by show (nearSet g.near h _).length ≤ t; rw [set_len]; exact f.n) }
theorem fit_hearOpenB {t p q : Nat} {g : G} {h : Str} {was : Bool} (f : Fit t p q g) : Fit (t + 1) p (q + 1) (hearOpenB was g h) := by
  have f1 := f.mono (Nat.le_succ t) (Nat.le_refl p) (Nat.le_succ q)
  unfold hearOpenB
  split
  · refine { f1 with d := ?_ }
    show (g.debts ++ [h]).length ≤ t + 1
    rw [List.length_append]
    have := f.d
    simp
    omega
  · exact (fit_tell f).mono (by omega) (Nat.le_refl _) (Nat.le_refl _)
theorem fit_hearChair {t p q : Nat} {g : G} {h : Str} (f : Fit t p q g) : Fit (t + 1) p (q + 1) (hearChair g h) := by
  have f1 := f.mono (Nat.le_succ t) (Nat.le_refl p) (Nat.le_succ q)
  unfold hearChair
  split
  · refine { f1 with s := ?_ }
    show (g.seats ++ [h]).length ≤ t + 1
    rw [List.length_append]
    have := f.s
    simp
    omega
  · exact (fit_tell f).mono (by omega) (Nat.le_refl _) (Nat.le_refl _)
theorem fit_stepH {t p : Nat} {g g' : G} {h : Str} {l : List Str} (f : Fit t p 0 g) (e : stepH g h l = some g') : Fit (t + 2) (p + 3) (8 * (t + 2)) g' := by
  unfold stepH at e
  split at e
  · cases e
  · split at e
    · split at e
      · cases e
      · rw [← Option.some.inj e]
        exact (fit_hearWord f).mono (by omega) (by omega) (by omega)
    · split at e
      · split at e
        · cases e
        · rw [← Option.some.inj e]
          exact (fit_hearOpenB (fit_hearOpenA f)).mono (by omega) (by omega) (by omega)
      · split at e
        · split at e
          · rw [← Option.some.inj e]
            exact (fit_answered f).mono (by omega) (by omega) (by omega)
          · cases e
        · split at e
          · split at e
            · cases e
            · rw [← Option.some.inj e]
              exact (fit_hearChair f).mono (by omega) (by omega) (by omega)
          · cases e
theorem fit_step {t p : Nat} {g g' : G} {w : What} (f : Fit t p 0 g) (e : stepR g w = some g') : Fit (t + 2) (p + 3) (8 * (t + 2)) g' := by
  cases w with
  | wish =>
    have e : (if g.wished = true then none else some (look { g with wished := true } none)) = some g' := e
    split at e
    · cases e
    · rw [← Option.some.inj e]
      exact (fit_look (t := t) (p := p) (q := 0) (g := { g with wished := true }) { f with }).mono (by omega) (by omega) (by omega)
  | unwish =>
    have e : (if g.wished = true then some (look { g with wished := false } none) else none) = some g' := e
    split at e
    · rw [← Option.some.inj e]
      exact (fit_look (t := t) (p := p) (q := 0) (g := { g with wished := false }) { f with }).mono (by omega) (by omega) (by omega)
    · cases e
  | join h =>
    have e : (if h = g.own ∨ h ∈ g.keys then none else some (joinB (joinA g h) h)) = some g' := e
    split at e
    · cases e
    · rw [← Option.some.inj e]
      have f1 := f.mono (Nat.le_succ t) (Nat.le_refl p) (Nat.le_refl 0)
      have hn : (g.near ++ [(h, (none : Option (Str × Nat)))]).length ≤ t + 1 := by
        rw [List.length_append]
        have := f.n
        simp
        omega
      exact (fit_joinB (fit_look (t := t + 1) (p := p) (q := 0) (g := { g with near := g.near ++ [(h, none)] }) (c := none) { f1 with n := hn })).mono (by omega) (by omega) (by omega)
  | part h =>
    have e : (if h ∈ g.keys then some (partB (look (partA g h) none) h) else none) = some g' := e
    split at e
    · rw [← Option.some.inj e]
      exact (fit_partB (fit_look (fit_partA f))).mono (by omega) (by omega) (by omega)
    · cases e
  | hear h l => exact fit_stepH f e
end Ha

/-! The text by places, the defs' names by slots, and what the top has written. -/
namespace Ha
open PySem PySem.Spec PyProof.Rows L2
def top (i : Nat) : Stmt := PySem.Challenge.pw_heardahead_k27_whole_a_guest_by_the_rule.main.body.getD i (.Pass ⟨0, 0, 0, 0⟩)
/-- a def of the text as it stands behind the top, and how its arguments bind -/
structure Df (K : PySem.W.Frag) (x qual : Str) (st : Stmt) (ps : List Str) where
  f : Addr
  fd : FuncData
  F : Fun K x qual st f fd
  b : Binds K fd ps []
/-- an own error's class -/
structure Er (K : PySem.W.Frag) (mg : Str → Option Value) (x : Str) where
  C : Addr
  g : mg x = some (.ref C)
  x : PySem.W.excIn K C [.type "ValueError", .type "Exception", .type "BaseException", .type "object"] "ValueError.__new__" = true
  k : PySem.W.keepIn K (.ref C) = true
  b : PySem.W.subIn K (.ref C) (.type "BaseException") = some true
  t : PySem.W.typeIn K (.ref C) = some (.type "type")
/-- a tuple of texts that the top has made -/
structure Kt (K : PySem.W.Frag) (mg : Str → Option Value) (x : Str) (xs : List Str) where
  a : Addr
  g : mg x = some (.ref a)
  q : ∀ H : Hp, SqT K H a (xs.map V.str)
  ty : ∃ o, K.lookup a = some o ∧ o.cls = .type "tuple"
abbrev s_init : Stmt := inClass (top 23) 0
abbrev s_need_near : Stmt := inClass (top 23) 1
abbrev s_tell : Stmt := inClass (top 23) 2
abbrev s_gone : Stmt := inClass (top 23) 3
abbrev s_words_heard : Stmt := inClass (top 23) 4
abbrev s_given : Stmt := inClass (top 23) 5
abbrev s_look : Stmt := inClass (top 23) 6
abbrev s_settle : Stmt := inClass (top 23) 7
abbrev s_give_up : Stmt := inClass (top 23) 8
abbrev s_close : Stmt := inClass (top 23) 9
abbrev s_wish : Stmt := inClass (top 23) 10
abbrev s_unwish : Stmt := inClass (top 23) 11
abbrev s_join : Stmt := inClass (top 23) 12
abbrev s_part : Stmt := inClass (top 23) 13
abbrev s_answered : Stmt := inClass (top 23) 14
abbrev s_hear : Stmt := inClass (top 23) 15
abbrev s_hear_word : Stmt := inClass (top 23) 16
abbrev s_hear_open : Stmt := inClass (top 23) 17
abbrev s_hear_chair : Stmt := inClass (top 23) 18
abbrev s_houses : Stmt := inClass (top 23) 20
abbrev s_wishes : Stmt := inClass (top 23) 21
abbrev s_is_open : Stmt := inClass (top 23) 22
abbrev s_word : Stmt := inClass (top 23) 24
abbrev s_heard_of : Stmt := inClass (top 23) 25
abbrev s_is_ahead : Stmt := inClass (top 23) 26
abbrev s_chairs : Stmt := inClass (top 23) 27
abbrev s_awaited : Stmt := inClass (top 23) 28
abbrev s_owed : Stmt := inClass (top 23) 29
abbrev s_cause : Stmt := inClass (top 23) 30
abbrev s_turns : Stmt := inClass (top 23) 31
abbrev s_is_name : Stmt := top 11
abbrev s_is_letter : Stmt := top 22
abbrev s_l_pot : Stmt := top 25
abbrev s_l_dip : Stmt := top 26
abbrev s_l_names : Stmt := top 27
abbrev s_l_done : Stmt := top 28
abbrev s_l_what : Stmt := top 29
abbrev s_l_new : Stmt := top 30
abbrev s_l_given : Stmt := top 31
abbrev s_l_look : Stmt := top 32
abbrev s_l_shut : Stmt := top 33
abbrev s_l_joined : Stmt := top 34
abbrev s_l_parted : Stmt := top 35
abbrev s_l_opened : Stmt := top 36
abbrev s_l_hears : Stmt := top 37
abbrev s_l_did : Stmt := top 38
abbrev s_l_alike : Stmt := top 39
abbrev s_l_houses : Stmt := top 40
abbrev s_l_road : Stmt := top 41
abbrev s_law : Stmt := top 42
abbrev n_init : List Str := ["self", "name"]
theorem sc_init : FnScope n_init ["self", "name"] (defScope s_init) := ⟨rfl, rfl, rfl, by decide +kernel, rfl, by decide +kernel, by decide +kernel⟩
abbrev n_need_near : List Str := ["self", "house"]
theorem sc_need_near : FnScope n_need_near ["self", "house"] (defScope s_need_near) := ⟨rfl, rfl, rfl, by decide +kernel, rfl, by decide +kernel, by decide +kernel⟩
abbrev n_tell : List Str := ["self", "house", "letter"]
theorem sc_tell : FnScope n_tell ["self", "house", "letter"] (defScope s_tell) := ⟨rfl, rfl, rfl, by decide +kernel, rfl, by decide +kernel, by decide +kernel⟩
abbrev n_gone : List Str := ["self", "found"]
theorem sc_gone : FnScope n_gone ["self"] (defScope s_gone) := ⟨rfl, rfl, rfl, by decide +kernel, rfl, by decide +kernel, by decide +kernel⟩
abbrev n_words_heard : List Str := ["self", "is_ahead", "found", "house", "told", "good"]
theorem sc_words_heard : FnScope n_words_heard ["self", "is_ahead"] (defScope s_words_heard) := ⟨rfl, rfl, rfl, by decide +kernel, rfl, by decide +kernel, by decide +kernel⟩
abbrev n_given : List Str := ["self", "is_ahead", "words"]
theorem sc_given : FnScope n_given ["self", "is_ahead"] (defScope s_given) := ⟨rfl, rfl, rfl, by decide +kernel, rfl, by decide +kernel, by decide +kernel⟩
abbrev n_look : List Str := ["self", "house", "word"]
theorem sc_look : FnScope n_look ["self", "house"] (defScope s_look) := ⟨rfl, rfl, rfl, by decide +kernel, rfl, by decide +kernel, by decide +kernel⟩
abbrev n_settle : List Str := ["self", "word", "house"]
theorem sc_settle : FnScope n_settle ["self", "word"] (defScope s_settle) := ⟨rfl, rfl, rfl, by decide +kernel, rfl, by decide +kernel, by decide +kernel⟩
abbrev n_give_up : List Str := ["self", "house", "other"]
theorem sc_give_up : FnScope n_give_up ["self", "house"] (defScope s_give_up) := ⟨rfl, rfl, rfl, by decide +kernel, rfl, by decide +kernel, by decide +kernel⟩
abbrev n_close : List Str := ["self", "house"]
theorem sc_close : FnScope n_close ["self"] (defScope s_close) := ⟨rfl, rfl, rfl, by decide +kernel, rfl, by decide +kernel, by decide +kernel⟩
abbrev n_wish : List Str := ["self"]
theorem sc_wish : FnScope n_wish ["self"] (defScope s_wish) := ⟨rfl, rfl, rfl, by decide +kernel, rfl, by decide +kernel, by decide +kernel⟩
abbrev n_unwish : List Str := ["self"]
theorem sc_unwish : FnScope n_unwish ["self"] (defScope s_unwish) := ⟨rfl, rfl, rfl, by decide +kernel, rfl, by decide +kernel, by decide +kernel⟩
abbrev n_join : List Str := ["self", "house"]
theorem sc_join : FnScope n_join ["self", "house"] (defScope s_join) := ⟨rfl, rfl, rfl, by decide +kernel, rfl, by decide +kernel, by decide +kernel⟩
abbrev n_part : List Str := ["self", "house", "one"]
theorem sc_part : FnScope n_part ["self", "house"] (defScope s_part) := ⟨rfl, rfl, rfl, by decide +kernel, rfl, by decide +kernel, by decide +kernel⟩
abbrev n_answered : List Str := ["self", "house", "one"]
theorem sc_answered : FnScope n_answered ["self", "house"] (defScope s_answered) := ⟨rfl, rfl, rfl, by decide +kernel, rfl, by decide +kernel, by decide +kernel⟩
abbrev n_hear : List Str := ["self", "house", "letter"]
theorem sc_hear : FnScope n_hear ["self", "house", "letter"] (defScope s_hear) := ⟨rfl, rfl, rfl, by decide +kernel, rfl, by decide +kernel, by decide +kernel⟩
abbrev n_hear_word : List Str := ["self", "house", "word"]
theorem sc_hear_word : FnScope n_hear_word ["self", "house", "word"] (defScope s_hear_word) := ⟨rfl, rfl, rfl, by decide +kernel, rfl, by decide +kernel, by decide +kernel⟩
abbrev n_hear_open : List Str := ["self", "house", "was_open"]
theorem sc_hear_open : FnScope n_hear_open ["self", "house"] (defScope s_hear_open) := ⟨rfl, rfl, rfl, by decide +kernel, rfl, by decide +kernel, by decide +kernel⟩
abbrev n_hear_chair : List Str := ["self", "house"]
theorem sc_hear_chair : FnScope n_hear_chair ["self", "house"] (defScope s_hear_chair) := ⟨rfl, rfl, rfl, by decide +kernel, rfl, by decide +kernel, by decide +kernel⟩
abbrev n_houses : List Str := ["self"]
theorem sc_houses : FnScope n_houses ["self"] (defScope s_houses) := ⟨rfl, rfl, rfl, by decide +kernel, rfl, by decide +kernel, by decide +kernel⟩
abbrev n_wishes : List Str := ["self"]
theorem sc_wishes : FnScope n_wishes ["self"] (defScope s_wishes) := ⟨rfl, rfl, rfl, by decide +kernel, rfl, by decide +kernel, by decide +kernel⟩
abbrev n_is_open : List Str := ["self"]
theorem sc_is_open : FnScope n_is_open ["self"] (defScope s_is_open) := ⟨rfl, rfl, rfl, by decide +kernel, rfl, by decide +kernel, by decide +kernel⟩
abbrev n_word : List Str := ["self"]
theorem sc_word : FnScope n_word ["self"] (defScope s_word) := ⟨rfl, rfl, rfl, by decide +kernel, rfl, by decide +kernel, by decide +kernel⟩
abbrev n_heard_of : List Str := ["self", "house", "told"]
theorem sc_heard_of : FnScope n_heard_of ["self", "house"] (defScope s_heard_of) := ⟨rfl, rfl, rfl, by decide +kernel, rfl, by decide +kernel, by decide +kernel⟩
abbrev n_is_ahead : List Str := ["self", "house", "told"]
theorem sc_is_ahead : FnScope n_is_ahead ["self", "house"] (defScope s_is_ahead) := ⟨rfl, rfl, rfl, by decide +kernel, rfl, by decide +kernel, by decide +kernel⟩
abbrev n_chairs : List Str := ["self"]
theorem sc_chairs : FnScope n_chairs ["self"] (defScope s_chairs) := ⟨rfl, rfl, rfl, by decide +kernel, rfl, by decide +kernel, by decide +kernel⟩
abbrev n_awaited : List Str := ["self"]
theorem sc_awaited : FnScope n_awaited ["self"] (defScope s_awaited) := ⟨rfl, rfl, rfl, by decide +kernel, rfl, by decide +kernel, by decide +kernel⟩
abbrev n_owed : List Str := ["self"]
theorem sc_owed : FnScope n_owed ["self"] (defScope s_owed) := ⟨rfl, rfl, rfl, by decide +kernel, rfl, by decide +kernel, by decide +kernel⟩
abbrev n_cause : List Str := ["self"]
theorem sc_cause : FnScope n_cause ["self"] (defScope s_cause) := ⟨rfl, rfl, rfl, by decide +kernel, rfl, by decide +kernel, by decide +kernel⟩
abbrev n_turns : List Str := ["self"]
theorem sc_turns : FnScope n_turns ["self"] (defScope s_turns) := ⟨rfl, rfl, rfl, by decide +kernel, rfl, by decide +kernel, by decide +kernel⟩
abbrev n_is_name : List Str := ["thing", "sign"]
theorem sc_is_name : FnScope n_is_name ["thing"] (defScope s_is_name) := ⟨rfl, rfl, rfl, by decide +kernel, rfl, by decide +kernel, by decide +kernel⟩
abbrev n_is_letter : List Str := ["thing", "part"]
theorem sc_is_letter : FnScope n_is_letter ["thing"] (defScope s_is_letter) := ⟨rfl, rfl, rfl, by decide +kernel, rfl, by decide +kernel, by decide +kernel⟩
abbrev n_l_pot : List Str := ["_law_script", "_law_k", "_law_cell"]
theorem sc_l_pot : FnScope n_l_pot ["_law_script", "_law_k"] (defScope s_l_pot) := ⟨rfl, rfl, rfl, by decide +kernel, rfl, by decide +kernel, by decide +kernel⟩
abbrev n_l_dip : List Str := ["_law_pot_here", "_law_many", "_law_found", "_law_mixed"]
theorem sc_l_dip : FnScope n_l_dip ["_law_pot_here", "_law_many"] (defScope s_l_dip) := ⟨rfl, rfl, rfl, by decide +kernel, rfl, by decide +kernel, by decide +kernel⟩
abbrev n_l_names : List Str := ["_law_pot_here", "_law_many", "_law_pool", "_law_k"]
theorem sc_l_names : FnScope n_l_names ["_law_pot_here", "_law_many"] (defScope s_l_names) := ⟨rfl, rfl, rfl, by decide +kernel, rfl, by decide +kernel, by decide +kernel⟩
abbrev n_l_done : List Str := ["_law_guest", "_law_what_here"]
theorem sc_l_done : FnScope n_l_done ["_law_guest", "_law_what_here"] (defScope s_l_done) := ⟨rfl, rfl, rfl, by decide +kernel, rfl, by decide +kernel, by decide +kernel⟩
abbrev n_l_what : List Str := ["_law_pot_here", "_law_guest", "_law_houses_here", "_law_house", "_law_way", "_law_letters"]
theorem sc_l_what : FnScope n_l_what ["_law_pot_here", "_law_guest", "_law_houses_here"] (defScope s_l_what) := ⟨rfl, rfl, rfl, by decide +kernel, rfl, by decide +kernel, by decide +kernel⟩
abbrev n_l_new : List Str := ["_law_name", "_law_mine"]
theorem sc_l_new : FnScope n_l_new ["_law_name"] (defScope s_l_new) := ⟨rfl, rfl, rfl, by decide +kernel, rfl, by decide +kernel, by decide +kernel⟩
abbrev n_l_given : List Str := ["_law_mine", "_law_upto", "_law_rows", "_law_some", "_law_told", "_law_word", "_law_number"]
theorem sc_l_given : FnScope n_l_given ["_law_mine", "_law_upto"] (defScope s_l_given) := ⟨rfl, rfl, rfl, by decide +kernel, rfl, by decide +kernel, by decide +kernel⟩
abbrev n_l_look : List Str := ["_law_mine", "_law_cause", "_law_word", "_law_house"]
theorem sc_l_look : FnScope n_l_look ["_law_mine", "_law_cause"] (defScope s_l_look) := ⟨rfl, rfl, rfl, by decide +kernel, rfl, by decide +kernel, by decide +kernel⟩
abbrev n_l_shut : List Str := ["_law_mine", "_law_house"]
theorem sc_l_shut : FnScope n_l_shut ["_law_mine"] (defScope s_l_shut) := ⟨rfl, rfl, rfl, by decide +kernel, rfl, by decide +kernel, by decide +kernel⟩
abbrev n_l_joined : List Str := ["_law_mine", "_law_house"]
theorem sc_l_joined : FnScope n_l_joined ["_law_mine", "_law_house"] (defScope s_l_joined) := ⟨rfl, rfl, rfl, by decide +kernel, rfl, by decide +kernel, by decide +kernel⟩
abbrev n_l_parted : List Str := ["_law_mine", "_law_house", "_law_row", "_law_one"]
theorem sc_l_parted : FnScope n_l_parted ["_law_mine", "_law_house"] (defScope s_l_parted) := ⟨rfl, rfl, rfl, by decide +kernel, rfl, by decide +kernel, by decide +kernel⟩
abbrev n_l_opened : List Str := ["_law_mine", "_law_house", "_law_was"]
theorem sc_l_opened : FnScope n_l_opened ["_law_mine", "_law_house"] (defScope s_l_opened) := ⟨rfl, rfl, rfl, by decide +kernel, rfl, by decide +kernel, by decide +kernel⟩
abbrev n_l_hears : List Str := ["_law_mine", "_law_house", "_law_letter"]
theorem sc_l_hears : FnScope n_l_hears ["_law_mine", "_law_house", "_law_letter"] (defScope s_l_hears) := ⟨rfl, rfl, rfl, by decide +kernel, rfl, by decide +kernel, by decide +kernel⟩
abbrev n_l_did : List Str := ["_law_mine", "_law_what_here", "_law_good"]
theorem sc_l_did : FnScope n_l_did ["_law_mine", "_law_what_here"] (defScope s_l_did) := ⟨rfl, rfl, rfl, by decide +kernel, rfl, by decide +kernel, by decide +kernel⟩
abbrev n_l_alike : List Str := ["_law_guest", "_law_mine", "_law_found", "_law_due", "_law_some", "_law_house", "_law_told", "_law_row"]
theorem sc_l_alike : FnScope n_l_alike ["_law_guest", "_law_mine"] (defScope s_l_alike) := ⟨rfl, rfl, rfl, by decide +kernel, rfl, by decide +kernel, by decide +kernel⟩
abbrev n_l_houses : List Str := ["_law_pot_here", "_law_found", "_law_one", "_law_other"]
theorem sc_l_houses : FnScope n_l_houses ["_law_pot_here"] (defScope s_l_houses) := ⟨rfl, rfl, rfl, by decide +kernel, rfl, by decide +kernel, by decide +kernel⟩
abbrev n_l_road : List Str := ["_law_pot_here", "_law_houses_here", "_law_left", "_law_order", "_law_one", "_law_answers", "_law_found", "_law_house"]
theorem sc_l_road : FnScope n_l_road ["_law_pot_here", "_law_houses_here"] (defScope s_l_road) := ⟨rfl, rfl, rfl, by decide +kernel, rfl, by decide +kernel, by decide +kernel⟩
abbrev n_law : List Str := ["_law_script", "_law_k", "_law_pot_here", "_law_names_here", "_law_guest", "_law_mate", "_law_mine", "_law_house", "_law_told", "_law_what_here", "_law_due", "_law_turn"]
theorem sc_law : FnScope n_law ["_law_script"] (defScope s_law) := ⟨rfl, rfl, rfl, by decide +kernel, rfl, by decide +kernel, by decide +kernel⟩
/-- what the top has written -/
structure Tx (K : PySem.W.Frag) (mg : Str → Option Value) where
  gIN : ∃ t, mg "IN" = some (.str "in" t)
  gOUT : ∃ t, mg "OUT" = some (.str "out" t)
  gCLEAR : ∃ t, mg "CLEAR" = some (.str "clear" t)
  gBARRED : ∃ t, mg "BARRED" = some (.str "barred" t)
  gWORD : ∃ t, mg "WORD" = some (.str "word" t)
  gLETTERS : ∃ t, mg "LETTERS" = some (.str "abcdefghijklmnopqrstuvwxyz" t)
  gMOST : ∃ t, mg "MOST_LETTERS" = some (.int 8 t)
  kOPEN : Kt K mg "OPEN" ["open"]
  kHEARD : Kt K mg "HEARD" ["heard"]
  kCHAIR : Kt K mg "CHAIR" ["chair"]
  kBACK : Kt K mg "BACK" ["back"]
  eChairError : Er K mg "ChairError"
  eNoName : Er K mg "NoName"
  eNoRoad : Er K mg "NoRoad"
  eNoLetter : Er K mg "NoLetter"
  eNotWished : Er K mg "NotWished"
  eTwice : Er K mg "Twice"
  xNoName : PySem.W.exmOne K (.ref eNoName.C) (.ref eChairError.C) = some true
  xNoRoad : PySem.W.exmOne K (.ref eNoRoad.C) (.ref eChairError.C) = some true
  xNoLetter : PySem.W.exmOne K (.ref eNoLetter.C) (.ref eChairError.C) = some true
  xNotWished : PySem.W.exmOne K (.ref eNotWished.C) (.ref eChairError.C) = some true
  xTwice : PySem.W.exmOne K (.ref eTwice.C) (.ref eChairError.C) = some true
  b_isinstance : mg "isinstance" = none
  b_len : mg "len" = none
  b_all : mg "all" = none
  b_sorted : mg "sorted" = none
  b_list : mg "list" = none
  b_max : mg "max" = none
  b_min : mg "min" = none
  b_range : mg "range" = none
  b_repr : mg "repr" = none
  b_str : mg "str" = none
  b_tuple : mg "tuple" = none
  C : Addr
  cl : Cls K C
  gC : mg "Guest" = some (.ref C)
  n_own : NoAttr K C "own"
  n_wished : NoAttr K C "wished"
  n_near : NoAttr K C "near"
  n_ears : NoAttr K C "ears"
  n_mark : NoAttr K C "mark"
  n_since : NoAttr K C "since"
  n_opened : NoAttr K C "opened"
  n_source : NoAttr K C "source"
  n_knows : NoAttr K C "knows"
  n_waits : NoAttr K C "waits"
  n_debts : NoAttr K C "debts"
  n_seats : NoAttr K C "seats"
  n_past : NoAttr K C "past"
  n_going : NoAttr K C "going"
  d_init : Df K "__init__" "Guest.__init__" s_init ["self", "name"]
  mkC : Mk K C d_init.f
  d_need_near : Df K "need_near" "Guest.need_near" s_need_near ["self", "house"]
  m_need_near : Meth K C "need_near" d_need_near.f
  d_tell : Df K "tell" "Guest.tell" s_tell ["self", "house", "letter"]
  m_tell : Meth K C "tell" d_tell.f
  d_gone : Df K "gone" "Guest.gone" s_gone ["self"]
  m_gone : Meth K C "gone" d_gone.f
  d_words_heard : Df K "words_heard" "Guest.words_heard" s_words_heard ["self", "is_ahead"]
  m_words_heard : Meth K C "words_heard" d_words_heard.f
  d_given : Df K "given" "Guest.given" s_given ["self", "is_ahead"]
  m_given : Meth K C "given" d_given.f
  d_look : Df K "look" "Guest.look" s_look ["self", "house"]
  m_look : Meth K C "look" d_look.f
  d_settle : Df K "settle" "Guest.settle" s_settle ["self", "word"]
  m_settle : Meth K C "settle" d_settle.f
  d_give_up : Df K "give_up" "Guest.give_up" s_give_up ["self", "house"]
  m_give_up : Meth K C "give_up" d_give_up.f
  d_close : Df K "close" "Guest.close" s_close ["self"]
  m_close : Meth K C "close" d_close.f
  d_wish : Df K "wish" "Guest.wish" s_wish ["self"]
  m_wish : Meth K C "wish" d_wish.f
  d_unwish : Df K "unwish" "Guest.unwish" s_unwish ["self"]
  m_unwish : Meth K C "unwish" d_unwish.f
  d_join : Df K "join" "Guest.join" s_join ["self", "house"]
  m_join : Meth K C "join" d_join.f
  d_part : Df K "part" "Guest.part" s_part ["self", "house"]
  m_part : Meth K C "part" d_part.f
  d_answered : Df K "answered" "Guest.answered" s_answered ["self", "house"]
  m_answered : Meth K C "answered" d_answered.f
  d_hear : Df K "hear" "Guest.hear" s_hear ["self", "house", "letter"]
  m_hear : Meth K C "hear" d_hear.f
  d_hear_word : Df K "hear_word" "Guest.hear_word" s_hear_word ["self", "house", "word"]
  m_hear_word : Meth K C "hear_word" d_hear_word.f
  d_hear_open : Df K "hear_open" "Guest.hear_open" s_hear_open ["self", "house"]
  m_hear_open : Meth K C "hear_open" d_hear_open.f
  d_hear_chair : Df K "hear_chair" "Guest.hear_chair" s_hear_chair ["self", "house"]
  m_hear_chair : Meth K C "hear_chair" d_hear_chair.f
  d_houses : Df K "houses" "Guest.houses" s_houses ["self"]
  m_houses : Meth K C "houses" d_houses.f
  d_wishes : Df K "wishes" "Guest.wishes" s_wishes ["self"]
  m_wishes : Meth K C "wishes" d_wishes.f
  d_is_open : Df K "is_open" "Guest.is_open" s_is_open ["self"]
  m_is_open : Meth K C "is_open" d_is_open.f
  d_word : Df K "word" "Guest.word" s_word ["self"]
  m_word : Meth K C "word" d_word.f
  d_heard_of : Df K "heard_of" "Guest.heard_of" s_heard_of ["self", "house"]
  m_heard_of : Meth K C "heard_of" d_heard_of.f
  d_is_ahead : Df K "is_ahead" "Guest.is_ahead" s_is_ahead ["self", "house"]
  m_is_ahead : Meth K C "is_ahead" d_is_ahead.f
  d_chairs : Df K "chairs" "Guest.chairs" s_chairs ["self"]
  m_chairs : Meth K C "chairs" d_chairs.f
  d_awaited : Df K "awaited" "Guest.awaited" s_awaited ["self"]
  m_awaited : Meth K C "awaited" d_awaited.f
  d_owed : Df K "owed" "Guest.owed" s_owed ["self"]
  m_owed : Meth K C "owed" d_owed.f
  d_cause : Df K "cause" "Guest.cause" s_cause ["self"]
  m_cause : Meth K C "cause" d_cause.f
  d_turns : Df K "turns" "Guest.turns" s_turns ["self"]
  m_turns : Meth K C "turns" d_turns.f
  d_is_name : Df K "is_name" "is_name" s_is_name ["thing"]
  g_is_name : mg "is_name" = some (.ref d_is_name.f)
  d_is_letter : Df K "is_letter" "is_letter" s_is_letter ["thing"]
  g_is_letter : mg "is_letter" = some (.ref d_is_letter.f)
  d_l_pot : Df K "_law_pot" "_law_pot" s_l_pot ["_law_script", "_law_k"]
  g_l_pot : mg "_law_pot" = some (.ref d_l_pot.f)
  d_l_dip : Df K "_law_dip" "_law_dip" s_l_dip ["_law_pot_here", "_law_many"]
  g_l_dip : mg "_law_dip" = some (.ref d_l_dip.f)
  d_l_names : Df K "_law_names" "_law_names" s_l_names ["_law_pot_here", "_law_many"]
  g_l_names : mg "_law_names" = some (.ref d_l_names.f)
  d_l_done : Df K "_law_done" "_law_done" s_l_done ["_law_guest", "_law_what_here"]
  g_l_done : mg "_law_done" = some (.ref d_l_done.f)
  d_l_what : Df K "_law_what" "_law_what" s_l_what ["_law_pot_here", "_law_guest", "_law_houses_here"]
  g_l_what : mg "_law_what" = some (.ref d_l_what.f)
  d_l_new : Df K "_law_new" "_law_new" s_l_new ["_law_name"]
  g_l_new : mg "_law_new" = some (.ref d_l_new.f)
  d_l_given : Df K "_law_given" "_law_given" s_l_given ["_law_mine", "_law_upto"]
  g_l_given : mg "_law_given" = some (.ref d_l_given.f)
  d_l_look : Df K "_law_look" "_law_look" s_l_look ["_law_mine", "_law_cause"]
  g_l_look : mg "_law_look" = some (.ref d_l_look.f)
  d_l_shut : Df K "_law_shut" "_law_shut" s_l_shut ["_law_mine"]
  g_l_shut : mg "_law_shut" = some (.ref d_l_shut.f)
  d_l_joined : Df K "_law_joined" "_law_joined" s_l_joined ["_law_mine", "_law_house"]
  g_l_joined : mg "_law_joined" = some (.ref d_l_joined.f)
  d_l_parted : Df K "_law_parted" "_law_parted" s_l_parted ["_law_mine", "_law_house"]
  g_l_parted : mg "_law_parted" = some (.ref d_l_parted.f)
  d_l_opened : Df K "_law_opened" "_law_opened" s_l_opened ["_law_mine", "_law_house"]
  g_l_opened : mg "_law_opened" = some (.ref d_l_opened.f)
  d_l_hears : Df K "_law_hears" "_law_hears" s_l_hears ["_law_mine", "_law_house", "_law_letter"]
  g_l_hears : mg "_law_hears" = some (.ref d_l_hears.f)
  d_l_did : Df K "_law_did" "_law_did" s_l_did ["_law_mine", "_law_what_here"]
  g_l_did : mg "_law_did" = some (.ref d_l_did.f)
  d_l_alike : Df K "_law_alike" "_law_alike" s_l_alike ["_law_guest", "_law_mine"]
  g_l_alike : mg "_law_alike" = some (.ref d_l_alike.f)
  d_l_houses : Df K "_law_houses" "_law_houses" s_l_houses ["_law_pot_here"]
  g_l_houses : mg "_law_houses" = some (.ref d_l_houses.f)
  d_l_road : Df K "_law_road" "_law_road" s_l_road ["_law_pot_here", "_law_houses_here"]
  g_l_road : mg "_law_road" = some (.ref d_l_road.f)
  d_law : Df K "law" "law" s_law ["_law_script"]
  g_law : mg "law" = some (.ref d_law.f)
end Ha

/-! A guest's object in the heap, at a mirror state; how statements move it. -/
namespace Ha
open PySem PySem.Spec PyProof.Rows L2
/-! ### frames -/
/-- tuples stay; what stands outside the footprint F stays, and stays outside of the new one F' -/
structure Frm (F : List Addr) (H : Hp) (F' : List Addr) (H' : Hp) : Prop where
  tup : ∀ b xs, H b = some (.tup xs) → H' b = some (.tup xs)
  keep : ∀ b o, H b = some o → b ∉ F → H' b = some o
  sub : ∀ b ∈ F', b ∈ F ∨ H b = none
theorem Frm.refl (F : List Addr) (H : Hp) : Frm F H F H := ⟨fun _ _ e => e, fun _ _ e _ => e, fun _ h => .inl h⟩
theorem Frm.off {F F' : List Addr} {H H' : Hp} (f : Frm F H F' H') {b : Addr} {o : HO} (e : H b = some o) (h : b ∉ F) : b ∉ F' := fun z => by
  rcases f.sub b z with q | q
  · exact h q
  · rw [e] at q
    cases q
theorem Frm.trans {F F1 F2 : List Addr} {H H1 H2 : Hp} (f : Frm F H F1 H1) (g : Frm F1 H1 F2 H2) : Frm F H F2 H2 :=
  ⟨fun b xs e => g.tup b xs (f.tup b xs e), fun b o e h => g.keep b o (f.keep b o e h) (f.off e h), fun b h => by
    rcases g.sub b h with q | q
    · exact f.sub b q
    · by_cases hb : b ∈ F
      · exact .inl hb
      · right
        cases e : H b with
        | none => rfl
        | some o =>
          rw [f.keep b o e hb] at q
          cases q⟩
def noTup : HO → Prop
  | .tup _ => False
  | _ => True
theorem Frm.upd {F : List Addr} {H : Hp} {b : Addr} {o o' : HO} (hb : b ∈ F) (ho : H b = some o) (hn : noTup o) : Frm F H F (L2.upd H b o') := by
  refine ⟨fun c xs e => ?_, fun c u e hc => ?_, fun _ h => .inl h⟩
  · have ne : c ≠ b := fun z => by
      rw [z, ho] at e
      cases e
      exact hn
    rw [upd_ne ne]
    exact e
  · have ne : c ≠ b := fun z => hc (z ▸ hb)
    rw [upd_ne ne]
    exact e
theorem Frm.new {F : List Addr} {H : Hp} {b : Addr} {o' : HO} (hb : H b = none) : Frm F H F (L2.upd H b o') := by
  refine ⟨fun c xs e => ?_, fun c u e _ => ?_, fun _ h => .inl h⟩
  · rw [upd_ne (ne_of_none e hb)]
    exact e
  · rw [upd_ne (ne_of_none e hb)]
    exact e
/-- another footprint, of what was there or is new -/
theorem Frm.to {F F1 F2 : List Addr} {H H' : Hp} (f : Frm F H F1 H') (h : ∀ b ∈ F2, b ∈ F1 ∨ H b = none) : Frm F H F2 H' :=
  ⟨f.tup, f.keep, fun b hb => by
    rcases h b hb with q | q
    · exact f.sub b q
    · exact .inr q⟩
/-! ### what stands for a piece of the mirror -/
def oV : Option Str → V
  | none => .non
  | some x => .str x
/-- a tuple of texts -/
def TupS (K : PySem.W.Frag) (H : Hp) (b : Addr) (l : List Str) : Prop := H b = some (.tup (l.map V.str)) ∨ ∀ H' : Hp, SqT K H' b (l.map V.str)
def nearR (H : Hp) (p : Str × Option (Str × Nat)) (kv : Key × V) : Prop := kv.1 = Sum.inr p.1 ∧ match p.2 with
  | none => kv.2 = .non
  | some (w, n) => ∃ a, kv.2 = .ref a ∧ H a = some (.tup [.str w, .int (n : Int)])
def pastR (H : Hp) (p : Option Str × Option Str) (v : V) : Prop := ∃ a, v = .ref a ∧ H a = some (.tup [oV p.1, oV p.2])
def goR (K : PySem.W.Frag) (H : Hp) (q : Str × List Str) (v : V) : Prop := ∃ a b, v = .ref a ∧ H a = some (.tup [.str q.1, .ref b]) ∧ TupS K H b q.2
def TStay (H H' : Hp) : Prop := ∀ b xs, H b = some (.tup xs) → H' b = some (.tup xs)
theorem nearR.stay {H H' : Hp} (t : TStay H H') {p : Str × Option (Str × Nat)} {kv : Key × V} (h : nearR H p kv) : nearR H' p kv := by
  obtain ⟨p1, p2⟩ := p
  obtain ⟨e, h⟩ := h
  refine ⟨e, ?_⟩
  cases p2 with
  | none => exact h
  | some z =>
    obtain ⟨a, e1, e2⟩ := h
    exact ⟨a, e1, t _ _ e2⟩
theorem pastR.stay {H H' : Hp} (t : TStay H H') {p : Option Str × Option Str} {v : V} (h : pastR H p v) : pastR H' p v := by
  obtain ⟨a, e1, e2⟩ := h
  exact ⟨a, e1, t _ _ e2⟩
theorem TupS.stay {K : PySem.W.Frag} {H H' : Hp} (t : TStay H H') {b : Addr} {l : List Str} (h : TupS K H b l) : TupS K H' b l := by
  rcases h with h | h
  · exact .inl (t _ _ h)
  · exact .inr h
theorem TupS.sq {K : PySem.W.Frag} {H : Hp} {b : Addr} {l : List Str} (h : TupS K H b l) : SqT K H b (l.map V.str) := by
  rcases h with h | h
  · exact SqT.of h
  · exact h H
theorem goR.stay {K : PySem.W.Frag} {H H' : Hp} (t : TStay H H') {q : Str × List Str} {v : V} (h : goR K H q v) : goR K H' q v := by
  obtain ⟨a, b, e1, e2, e3⟩ := h
  exact ⟨a, b, e1, t _ _ e2, e3.stay t⟩
/-- a list of them -/
def LstR {α : Type} (R : Hp → α → V → Prop) (H : Hp) (a : Addr) (l : List α) : Prop := ∃ xs, H a = some (.lst xs) ∧ Paired (R H) l xs
def DctR (H : Hp) (a : Addr) (l : List (Str × Option (Str × Nat))) : Prop := ∃ kvs, H a = some (.dK kvs) ∧ Paired (nearR H) l kvs
def strR (_ : Hp) (x : Str) (v : V) : Prop := v = .str x
theorem paired_strs : ∀ {l : List Str} {xs : List V}, Paired (fun (x : Str) (v : V) => v = V.str x) l xs → xs = l.map V.str
  | _, _, .nil => rfl
  | _, _, .cons r t => by rw [r, paired_strs t]; rfl
theorem LstR.stay {α : Type} {R : Hp → α → V → Prop} {H H' : Hp} {a : Addr} {l : List α} (h : LstR R H a l) (ha : ∀ o, H a = some o → H' a = some o) (hR : ∀ x v, R H x v → R H' x v) : LstR R H' a l := by
  obtain ⟨xs, e, p⟩ := h
  exact ⟨xs, ha _ e, Paired.mapP p fun x v q => hR x v q⟩
theorem DctR.stay {H H' : Hp} {a : Addr} {l : List (Str × Option (Str × Nat))} (h : DctR H a l) (ha : ∀ o, H a = some o → H' a = some o) (t : TStay H H') : DctR H' a l := by
  obtain ⟨xs, e, p⟩ := h
  exact ⟨xs, ha _ e, Paired.mapP p fun x v q => q.stay t⟩
/-! ### a reading's head, opened -/
section
variable {K : PySem.W.Frag} {σ : L2.St} {H : Hp} {D : Ends} {te ta tb to td ty tv : TE} {t : TA} {Q : VK} {r : R2} {T : String} {f : Str}
theorem rd_drop (h : te σ H fun _ H1 => D.nx σ H1) : tDrop te D σ H := h
theorem rd_ret (h : te σ H D.rt) : tRet te D σ H := h
theorem rd_bm {r : V → List V → Hp → VK → Prop} (h : to σ H fun x H1 => tyV K T x H1 ∧ t σ H1 fun xs H2 => r x xs H2 Q) : tBM K T r to t σ H Q := h
theorem rd_bm0 {r : V → List V → Hp → VK → Prop} (h : to σ H fun x H1 => tyV K T x H1 ∧ r x [] H1 Q) : tBM0 K T r to σ H Q := h
theorem rd_dget (h : td σ H fun x H1 => ty σ H1 fun y H2 => ∃ a v, x = .ref a ∧ DGet H2 a y (some v) ∧ Q v H2) : tDGet td ty σ H Q := h
theorem rd_op (h : ta σ H fun x H1 => tb σ H1 fun y H2 => r x y H2 Q) : tOp r ta tb σ H Q := h
theorem rd_asg {g : TG} (h : te σ H fun x H1 => g x σ H1 D.nx) : tAsg te g D σ H := h
theorem rd_cb {r : List V → Hp → VK → Prop} (h : t σ H fun vs H1 => r vs H1 Q) : tCB r t σ H Q := h
theorem rd_cons {tr : TA} {Q : List V → Hp → Prop} (h : ta σ H fun x H1 => tr σ H1 fun xs H2 => Q (x :: xs) H2) : tCons ta tr σ H Q := h
theorem rd_sfld (h : tv σ H fun y H1 => ta σ H1 fun x H2 => ∃ a C dx fs, x = .ref a ∧ H2 a = some (.ins C dx fs) ∧ Cls K C ∧ NoAttr K C f ∧ fs.length < 1000 ∧ D.nx σ (L2.upd H2 a (.ins C dx (putF f y fs)))) : sFld K ta tv f D σ H := h
theorem rd_seq {t1 t2 : TS} (h : t1 { D with nx := t2 D } σ H) : tSeq t1 t2 D σ H := h
theorem rd_stoC {i : Nat} {v : V} {t2 : TS} (h : tVar i σ H fun x H2 => ∃ a C dx fs, x = .ref a ∧ H2 a = some (.ins C dx fs) ∧ Cls K C ∧ NoAttr K C f ∧ fs.length < 1000 ∧ t2 D σ (L2.upd H2 a (.ins C dx (putF f v fs)))) : tSeq (sFld K (tVar i) (tC v) f) t2 D σ H := h
theorem rd_tc {v : V} (h : Q v H) : tC v σ H Q := h
theorem rd_ifs {c : TT} {t1 t2 : TS} (h : c σ H fun b H1 => if b = true then t1 D σ H1 else t2 D σ H1) : tIfS c t1 t2 D σ H := h
theorem rd_test {Q : Bool → Hp → Prop} (h : te σ H fun x H' => ∃ k, x = .bl k ∧ Q k H') : tTest te σ H Q := h
theorem rd_dput (h : tv σ H fun v H1 => td σ H1 fun x H2 => ty σ H2 fun y H3 => ∃ a H4, x = .ref a ∧ DPut H3 a y v H4 ∧ D.nx σ H4) : sDPut td ty tv D σ H := h
theorem rd_tb {Q : Bool → Hp → Prop} (h : te σ H fun x H1 => ∃ c, x = .bl c ∧ Q c H1) : tB te σ H Q := h
end
/-! ### the guest's object -/
structure GA where
  p : Addr
  dx : Addr
  near : Addr
  knows : Addr
  waits : Addr
  debts : Addr
  seats : Addr
  past : Addr
  going : Addr
def GA.ft (a : GA) : List Addr := [a.p, a.near, a.knows, a.waits, a.debts, a.seats, a.past, a.going]
def gF (a : GA) (g : G) : List (Str × V) := [("own", .str g.own), ("wished", .bl g.wished), ("near", .ref a.near), ("ears", .int (g.ears : Int)), ("mark", oV g.mark), ("since", .int (g.since : Int)), ("opened", .bl g.opened), ("source", oV g.source), ("knows", .ref a.knows), ("waits", .ref a.waits), ("debts", .ref a.debts), ("seats", .ref a.seats), ("past", .ref a.past), ("going", .ref a.going)]
structure GuestAt (K : PySem.W.Frag) (C : Addr) (H : Hp) (a : GA) (g : G) : Prop where
  ob : H a.p = some (.ins C a.dx (gF a g))
  nr : DctR H a.near g.near
  kn : H a.knows = some (.lst (g.knows.map V.str))
  wt : H a.waits = some (.lst (g.waits.map V.str))
  db : H a.debts = some (.lst (g.debts.map V.str))
  st : H a.seats = some (.lst (g.seats.map V.str))
  pa : LstR pastR H a.past g.past
  go : LstR (goR K) H a.going g.going
  nd : a.ft.Nodup
section
variable {K : PySem.W.Frag} {C : Addr} {H H' : Hp} {a : GA} {g : G}
theorem GuestAt.stay (G : GuestAt K C H a g) (h : ∀ b o, H b = some o → b ∈ a.ft → H' b = some o) (t : TStay H H') : GuestAt K C H' a g where
  ob := h _ _ G.ob (by simp [GA.ft])
  nr := G.nr.stay (fun o e => h _ o e (by simp [GA.ft])) t
  kn := h _ _ G.kn (by simp [GA.ft])
  wt := h _ _ G.wt (by simp [GA.ft])
  db := h _ _ G.db (by simp [GA.ft])
  st := h _ _ G.st (by simp [GA.ft])
  pa := G.pa.stay (fun o e => h _ o e (by simp [GA.ft])) fun _ _ q => q.stay t
  go := G.go.stay (fun o e => h _ o e (by simp [GA.ft])) fun _ _ q => q.stay t
  nd := G.nd
/-- another structure's move leaves it -/
theorem GuestAt.off {F F' : List Addr} (G : GuestAt K C H a g) (f : Frm F H F' H') (hd : ∀ b ∈ a.ft, b ∉ F) : GuestAt K C H' a g :=
  G.stay (fun b o e hb => f.keep b o e (hd b hb)) f.tup
theorem GuestAt.dom (G : GuestAt K C H a g) : ∀ b ∈ a.ft, ∃ o, H b = some o ∧ noTup o := fun b hb => by
  simp only [GA.ft, List.mem_cons, List.not_mem_nil, or_false] at hb
  rcases hb with rfl | rfl | rfl | rfl | rfl | rfl | rfl | rfl
  · exact ⟨_, G.ob, trivial⟩
  · obtain ⟨x, e, _⟩ := G.nr
    exact ⟨_, e, trivial⟩
  · exact ⟨_, G.kn, trivial⟩
  · exact ⟨_, G.wt, trivial⟩
  · exact ⟨_, G.db, trivial⟩
  · exact ⟨_, G.st, trivial⟩
  · obtain ⟨x, e, _⟩ := G.pa
    exact ⟨_, e, trivial⟩
  · obtain ⟨x, e, _⟩ := G.go
    exact ⟨_, e, trivial⟩
theorem GuestAt.notNew (G : GuestAt K C H a g) {q : Addr} (hq : H q = none) : q ∉ a.ft := fun z => by
  obtain ⟨o, e, _⟩ := G.dom q z
  rw [e] at hq
  cases hq
theorem Frm.same {F : List Addr} {H H' : Hp} (h : ∀ b o, H b = some o → H' b = some o) : Frm F H F H' := ⟨fun b xs e => h b _ e, fun b o e _ => h b o e, fun _ hb => .inl hb⟩
theorem GuestAt.same (G : GuestAt K C H a g) (h : ∀ b o, H b = some o → H' b = some o) : GuestAt K C H' a g := G.stay (fun b o e _ => h b o e) fun b xs e => h b _ e
theorem GuestAt.upd_new (G : GuestAt K C H a g) {q : Addr} {o : HO} (hq : H q = none) : GuestAt K C (upd H q o) a g :=
  G.off (Frm.new (F := []) hq) fun _ _ => List.not_mem_nil
/-- an attribute is read -/
theorem GuestAt.fld (G : GuestAt K C H a g) {f : Str} {σ : L2.St} {i : Nat} {v : V} {Q : VK} (c : Cls K C) (n : NoAttr K C f) (q : Q v H) (hσ : σ[i]? = some (some (.ref a.p)) := by rfl) (l : List.lookup f (gF a g) = some v := by rfl) : tFld K (tVar i) f σ H Q :=
  ⟨_, hσ, a.p, C, a.dx, _, v, rfl, G.ob, c, n, l, q⟩
/-- a method is called: what stands ahead of its arguments -/
theorem GuestAt.meth (G : GuestAt K C H a g) {m : Str} {σ : L2.St} {i : Nat} {sp : Sp} {dvs : List V} {E : XK} {t : TA} {Q : VK} (q : t σ H fun vs H2 => sp (.ref a.p :: (vs ++ dvs)) H2 Q E) (hσ : σ[i]? = some (some (.ref a.p)) := by rfl) (l : List.lookup m (gF a g) = none := by rfl) : tMeth C m sp dvs E (tVar i) t σ H Q :=
  ⟨_, hσ, a.p, a.dx, _, rfl, G.ob, l, q⟩
/-- a plain attribute's new value -/
theorem GuestAt.put (G : GuestAt K C H a g) {f : Str} {y : V} (g' : Ha.G) (e : putF f y (gF a g) = gF a g' := by rfl)
    (hs : g'.near = g.near ∧ g'.knows = g.knows ∧ g'.waits = g.waits ∧ g'.debts = g.debts ∧ g'.seats = g.seats ∧ g'.past = g.past ∧ g'.going = g.going := by exact ⟨rfl, rfl, rfl, rfl, rfl, rfl, rfl⟩) :
    GuestAt K C (upd H a.p (.ins C a.dx (putF f y (gF a g)))) a g' ∧ Frm a.ft H a.ft (upd H a.p (.ins C a.dx (putF f y (gF a g)))) := by
  have fr : Frm a.ft H a.ft (upd H a.p (.ins C a.dx (putF f y (gF a g)))) := Frm.upd (by simp [GA.ft]) G.ob trivial
  refine ⟨?_, fr⟩
  have nd := G.nd
  have ne : ∀ b, b ∈ [a.near, a.knows, a.waits, a.debts, a.seats, a.past, a.going] → b ≠ a.p := fun b hb z => (List.nodup_cons.mp nd).1 (z ▸ hb)
  obtain ⟨h1, h2, h3, h4, h5, h6, h7⟩ := hs
  exact
    { ob := by rw [upd_same, e]
      nr := by rw [h1]; exact G.nr.stay (fun o z => by rw [upd_ne (ne _ (by simp))]; exact z) fr.tup
      kn := by rw [h2, upd_ne (ne _ (by simp))]; exact G.kn
      wt := by rw [h3, upd_ne (ne _ (by simp))]; exact G.wt
      db := by rw [h4, upd_ne (ne _ (by simp))]; exact G.db
      st := by rw [h5, upd_ne (ne _ (by simp))]; exact G.st
      pa := by rw [h6]; exact G.pa.stay (fun o z => by rw [upd_ne (ne _ (by simp))]; exact z) fun _ _ q => q.stay fr.tup
      go := by rw [h7]; exact G.go.stay (fun o z => by rw [upd_ne (ne _ (by simp))]; exact z) fun _ _ q => q.stay fr.tup
      nd := nd }
/-- a plain attribute is stored -/
theorem GuestAt.sto (G : GuestAt K C H a g) {f : Str} {σ : L2.St} {i : Nat} {y : V} {R : L2.St → Hp → Prop} (c : Cls K C) (n : NoAttr K C f) (g' : Ha.G)
    (q : ∀ H1, GuestAt K C H1 a g' → Frm a.ft H a.ft H1 → R σ H1) (hσ : σ[i]? = some (some (.ref a.p)) := by rfl) (e : putF f y (gF a g) = gF a g' := by rfl)
    (hs : g'.near = g.near ∧ g'.knows = g.knows ∧ g'.waits = g.waits ∧ g'.debts = g.debts ∧ g'.seats = g.seats ∧ g'.past = g.past ∧ g'.going = g.going := by exact ⟨rfl, rfl, rfl, rfl, rfl, rfl, rfl⟩) :
    tVar i σ H fun x H2 => ∃ b C' dx fs, x = .ref b ∧ H2 b = some (.ins C' dx fs) ∧ Cls K C' ∧ NoAttr K C' f ∧ fs.length < 1000 ∧ R σ (upd H2 b (.ins C' dx (putF f y fs))) := by
  refine ⟨_, hσ, a.p, C, a.dx, _, rfl, G.ob, c, n, (by show 14 < 1000; decide), ?_⟩
  have fr : Frm a.ft H a.ft (upd H a.p (.ins C a.dx (putF f y (gF a g)))) := Frm.upd (by simp [GA.ft]) G.ob trivial
  refine q _ ?_ fr
  have nd := G.nd
  have ne : ∀ b, b ∈ [a.near, a.knows, a.waits, a.debts, a.seats, a.past, a.going] → b ≠ a.p := fun b hb z => (List.nodup_cons.mp nd).1 (z ▸ hb)
  obtain ⟨h1, h2, h3, h4, h5, h6, h7⟩ := hs
  exact
    { ob := by rw [upd_same, e]
      nr := by rw [h1]; exact G.nr.stay (fun o z => by rw [upd_ne (ne _ (by simp))]; exact z) fr.tup
      kn := by rw [h2, upd_ne (ne _ (by simp))]; exact G.kn
      wt := by rw [h3, upd_ne (ne _ (by simp))]; exact G.wt
      db := by rw [h4, upd_ne (ne _ (by simp))]; exact G.db
      st := by rw [h5, upd_ne (ne _ (by simp))]; exact G.st
      pa := by rw [h6]; exact G.pa.stay (fun o z => by rw [upd_ne (ne _ (by simp))]; exact z) fun _ _ q => q.stay fr.tup
      go := by rw [h7]; exact G.go.stay (fun o z => by rw [upd_ne (ne _ (by simp))]; exact z) fun _ _ q => q.stay fr.tup
      nd := nd }
/-- a new list is stored in knows -/
theorem GuestAt.sto_knows (G : GuestAt K C H a g) {σ : L2.St} {i : Nat} {q : Addr} {l : List Str} {R : L2.St → Hp → Prop} (hq : H q = none) (c : Cls K C) (n : NoAttr K C "knows")
    (k : ∀ H1, GuestAt K C H1 { a with knows := q } { g with knows := l } → Frm a.ft H ({ a with knows := q } : GA).ft H1 → R σ H1) (hσ : σ[i]? = some (some (.ref a.p)) := by rfl) :
    tVar i σ (upd H q (.lst (l.map V.str))) fun x H2 => ∃ b C' dx fs, x = .ref b ∧ H2 b = some (.ins C' dx fs) ∧ Cls K C' ∧ NoAttr K C' "knows" ∧ fs.length < 1000 ∧ R σ (upd H2 b (.ins C' dx (putF "knows" (.ref q) fs))) := by
  have hn := G.notNew hq
  have G1 := G.upd_new (o := .lst (l.map V.str)) hq
  have nd := G.nd
  have np : a.p ≠ q := fun z => hn (by rw [← z]; simp [GA.ft])
  refine ⟨_, hσ, a.p, C, a.dx, _, rfl, G1.ob, c, n, (by show 14 < 1000; decide), ?_⟩
  have f1 : Frm a.ft H a.ft (upd (upd H q (.lst (l.map V.str))) a.p (.ins C a.dx (putF "knows" (.ref q) (gF a g)))) := (Frm.new (F := a.ft) hq).trans (Frm.upd (by simp [GA.ft]) G1.ob trivial)
  have tt := f1.tup
  have kp : ∀ b o, H b = some o → b ∈ [a.near, a.waits, a.debts, a.seats, a.past, a.going] → (upd (upd H q (.lst (l.map V.str))) a.p (.ins C a.dx (putF "knows" (.ref q) (gF a g)))) b = some o := fun b o e hb => by
    have n1 : b ≠ a.p := fun z => by
      simp only [GA.ft, List.nodup_cons, List.mem_cons, List.not_mem_nil, or_false, not_or, not_false_eq_true, and_true, List.nodup_nil] at nd hb
      grind
    rw [upd_ne n1, upd_ne (ne_of_none e hq)]
    exact e
  have nd' : ({ a with knows := q } : GA).ft.Nodup := by
    simp only [GA.ft, List.nodup_cons, List.mem_cons, List.not_mem_nil, or_false, not_or, not_false_eq_true, and_true, List.nodup_nil] at nd hn ⊢
    grind
  refine k _
    { ob := upd_same
      nr := G.nr.stay (fun o z => by rw [kp _ o z (by simp)]) tt
      wt := kp _ _ G.wt (by simp)
      db := kp _ _ G.db (by simp)
      st := kp _ _ G.st (by simp)
      pa := G.pa.stay (fun o z => by rw [kp _ o z (by simp)]) fun _ _ q => q.stay tt
      go := G.go.stay (fun o z => by rw [kp _ o z (by simp)]) fun _ _ q => q.stay tt
      kn := by rw [upd_ne (Ne.symm np), upd_same]
      nd := nd' } (f1.to fun b hb => ?_)
  simp only [GA.ft, List.mem_cons, List.not_mem_nil, or_false] at hb ⊢
  grind
/-- a new list is stored in debts -/
theorem GuestAt.sto_debts (G : GuestAt K C H a g) {σ : L2.St} {i : Nat} {q : Addr} {l : List Str} {R : L2.St → Hp → Prop} (hq : H q = none) (c : Cls K C) (n : NoAttr K C "debts")
    (k : ∀ H1, GuestAt K C H1 { a with debts := q } { g with debts := l } → Frm a.ft H ({ a with debts := q } : GA).ft H1 → R σ H1) (hσ : σ[i]? = some (some (.ref a.p)) := by rfl) :
    tVar i σ (upd H q (.lst (l.map V.str))) fun x H2 => ∃ b C' dx fs, x = .ref b ∧ H2 b = some (.ins C' dx fs) ∧ Cls K C' ∧ NoAttr K C' "debts" ∧ fs.length < 1000 ∧ R σ (upd H2 b (.ins C' dx (putF "debts" (.ref q) fs))) := by
  have hn := G.notNew hq
  have G1 := G.upd_new (o := .lst (l.map V.str)) hq
  have nd := G.nd
  have np : a.p ≠ q := fun z => hn (by rw [← z]; simp [GA.ft])
  refine ⟨_, hσ, a.p, C, a.dx, _, rfl, G1.ob, c, n, (by show 14 < 1000; decide), ?_⟩
  have f1 : Frm a.ft H a.ft (upd (upd H q (.lst (l.map V.str))) a.p (.ins C a.dx (putF "debts" (.ref q) (gF a g)))) := (Frm.new (F := a.ft) hq).trans (Frm.upd (by simp [GA.ft]) G1.ob trivial)
  have tt := f1.tup
  have kp : ∀ b o, H b = some o → b ∈ [a.near, a.knows, a.waits, a.seats, a.past, a.going] → (upd (upd H q (.lst (l.map V.str))) a.p (.ins C a.dx (putF "debts" (.ref q) (gF a g)))) b = some o := fun b o e hb => by
    have n1 : b ≠ a.p := fun z => by
      simp only [GA.ft, List.nodup_cons, List.mem_cons, List.not_mem_nil, or_false, not_or, not_false_eq_true, and_true, List.nodup_nil] at nd hb
      grind
    rw [upd_ne n1, upd_ne (ne_of_none e hq)]
    exact e
  have nd' : ({ a with debts := q } : GA).ft.Nodup := by
    simp only [GA.ft, List.nodup_cons, List.mem_cons, List.not_mem_nil, or_false, not_or, not_false_eq_true, and_true, List.nodup_nil] at nd hn ⊢
    grind
  refine k _
    { ob := upd_same
      nr := G.nr.stay (fun o z => by rw [kp _ o z (by simp)]) tt
      kn := kp _ _ G.kn (by simp)
      wt := kp _ _ G.wt (by simp)
      st := kp _ _ G.st (by simp)
      pa := G.pa.stay (fun o z => by rw [kp _ o z (by simp)]) fun _ _ q => q.stay tt
      go := G.go.stay (fun o z => by rw [kp _ o z (by simp)]) fun _ _ q => q.stay tt
      db := by rw [upd_ne (Ne.symm np), upd_same]
      nd := nd' } (f1.to fun b hb => ?_)
  simp only [GA.ft, List.mem_cons, List.not_mem_nil, or_false] at hb ⊢
  grind
/-- a new list is stored in seats -/
theorem GuestAt.sto_seats (G : GuestAt K C H a g) {σ : L2.St} {i : Nat} {q : Addr} {l : List Str} {R : L2.St → Hp → Prop} (hq : H q = none) (c : Cls K C) (n : NoAttr K C "seats")
    (k : ∀ H1, GuestAt K C H1 { a with seats := q } { g with seats := l } → Frm a.ft H ({ a with seats := q } : GA).ft H1 → R σ H1) (hσ : σ[i]? = some (some (.ref a.p)) := by rfl) :
    tVar i σ (upd H q (.lst (l.map V.str))) fun x H2 => ∃ b C' dx fs, x = .ref b ∧ H2 b = some (.ins C' dx fs) ∧ Cls K C' ∧ NoAttr K C' "seats" ∧ fs.length < 1000 ∧ R σ (upd H2 b (.ins C' dx (putF "seats" (.ref q) fs))) := by
  have hn := G.notNew hq
  have G1 := G.upd_new (o := .lst (l.map V.str)) hq
  have nd := G.nd
  have np : a.p ≠ q := fun z => hn (by rw [← z]; simp [GA.ft])
  refine ⟨_, hσ, a.p, C, a.dx, _, rfl, G1.ob, c, n, (by show 14 < 1000; decide), ?_⟩
  have f1 : Frm a.ft H a.ft (upd (upd H q (.lst (l.map V.str))) a.p (.ins C a.dx (putF "seats" (.ref q) (gF a g)))) := (Frm.new (F := a.ft) hq).trans (Frm.upd (by simp [GA.ft]) G1.ob trivial)
  have tt := f1.tup
  have kp : ∀ b o, H b = some o → b ∈ [a.near, a.knows, a.waits, a.debts, a.past, a.going] → (upd (upd H q (.lst (l.map V.str))) a.p (.ins C a.dx (putF "seats" (.ref q) (gF a g)))) b = some o := fun b o e hb => by
    have n1 : b ≠ a.p := fun z => by
      simp only [GA.ft, List.nodup_cons, List.mem_cons, List.not_mem_nil, or_false, not_or, not_false_eq_true, and_true, List.nodup_nil] at nd hb
      grind
    rw [upd_ne n1, upd_ne (ne_of_none e hq)]
    exact e
  have nd' : ({ a with seats := q } : GA).ft.Nodup := by
    simp only [GA.ft, List.nodup_cons, List.mem_cons, List.not_mem_nil, or_false, not_or, not_false_eq_true, and_true, List.nodup_nil] at nd hn ⊢
    grind
  refine k _
    { ob := upd_same
      nr := G.nr.stay (fun o z => by rw [kp _ o z (by simp)]) tt
      kn := kp _ _ G.kn (by simp)
      wt := kp _ _ G.wt (by simp)
      db := kp _ _ G.db (by simp)
      pa := G.pa.stay (fun o z => by rw [kp _ o z (by simp)]) fun _ _ q => q.stay tt
      go := G.go.stay (fun o z => by rw [kp _ o z (by simp)]) fun _ _ q => q.stay tt
      st := by rw [upd_ne (Ne.symm np), upd_same]
      nd := nd' } (f1.to fun b hb => ?_)
  simp only [GA.ft, List.mem_cons, List.not_mem_nil, or_false] at hb ⊢
  grind
/-- a new list is stored in waits -/
theorem GuestAt.sto_waits (G : GuestAt K C H a g) {σ : L2.St} {i : Nat} {q : Addr} {l : List Str} {R : L2.St → Hp → Prop} (hq : H q = none) (c : Cls K C) (n : NoAttr K C "waits")
    (k : ∀ H1, GuestAt K C H1 { a with waits := q } { g with waits := l } → Frm a.ft H ({ a with waits := q } : GA).ft H1 → R σ H1) (hσ : σ[i]? = some (some (.ref a.p)) := by rfl) :
    tVar i σ (upd H q (.lst (l.map V.str))) fun x H2 => ∃ b C' dx fs, x = .ref b ∧ H2 b = some (.ins C' dx fs) ∧ Cls K C' ∧ NoAttr K C' "waits" ∧ fs.length < 1000 ∧ R σ (upd H2 b (.ins C' dx (putF "waits" (.ref q) fs))) := by
  have hn := G.notNew hq
  have G1 := G.upd_new (o := .lst (l.map V.str)) hq
  have nd := G.nd
  have np : a.p ≠ q := fun z => hn (by rw [← z]; simp [GA.ft])
  refine ⟨_, hσ, a.p, C, a.dx, _, rfl, G1.ob, c, n, (by show 14 < 1000; decide), ?_⟩
  have f1 : Frm a.ft H a.ft (upd (upd H q (.lst (l.map V.str))) a.p (.ins C a.dx (putF "waits" (.ref q) (gF a g)))) := (Frm.new (F := a.ft) hq).trans (Frm.upd (by simp [GA.ft]) G1.ob trivial)
  have tt := f1.tup
  have kp : ∀ b o, H b = some o → b ∈ [a.near, a.knows, a.debts, a.seats, a.past, a.going] → (upd (upd H q (.lst (l.map V.str))) a.p (.ins C a.dx (putF "waits" (.ref q) (gF a g)))) b = some o := fun b o e hb => by
    have n1 : b ≠ a.p := fun z => by
      simp only [GA.ft, List.nodup_cons, List.mem_cons, List.not_mem_nil, or_false, not_or, not_false_eq_true, and_true, List.nodup_nil] at nd hb
      grind
    rw [upd_ne n1, upd_ne (ne_of_none e hq)]
    exact e
  have nd' : ({ a with waits := q } : GA).ft.Nodup := by
    simp only [GA.ft, List.nodup_cons, List.mem_cons, List.not_mem_nil, or_false, not_or, not_false_eq_true, and_true, List.nodup_nil] at nd hn ⊢
    grind
  refine k _
    { ob := upd_same
      nr := G.nr.stay (fun o z => by rw [kp _ o z (by simp)]) tt
      kn := kp _ _ G.kn (by simp)
      db := kp _ _ G.db (by simp)
      st := kp _ _ G.st (by simp)
      pa := G.pa.stay (fun o z => by rw [kp _ o z (by simp)]) fun _ _ q => q.stay tt
      go := G.go.stay (fun o z => by rw [kp _ o z (by simp)]) fun _ _ q => q.stay tt
      wt := by rw [upd_ne (Ne.symm np), upd_same]
      nd := nd' } (f1.to fun b hb => ?_)
  simp only [GA.ft, List.mem_cons, List.not_mem_nil, or_false] at hb ⊢
  grind
/-- an empty list is stored in going -/
theorem GuestAt.sto_going (G : GuestAt K C H a g) {σ : L2.St} {i : Nat} {q : Addr} {R : L2.St → Hp → Prop} (hq : H q = none) (c : Cls K C) (n : NoAttr K C "going")
    (k : ∀ H1, GuestAt K C H1 { a with going := q } { g with going := [] } → Frm a.ft H ({ a with going := q } : GA).ft H1 → (∀ o, H a.going = some o → H1 a.going = some o) → a.going ∉ ({ a with going := q } : GA).ft → R σ H1) (hσ : σ[i]? = some (some (.ref a.p)) := by rfl) :
    tVar i σ (upd H q (.lst [])) fun x H2 => ∃ b C' dx fs, x = .ref b ∧ H2 b = some (.ins C' dx fs) ∧ Cls K C' ∧ NoAttr K C' "going" ∧ fs.length < 1000 ∧ R σ (upd H2 b (.ins C' dx (putF "going" (.ref q) fs))) := by
  have hn := G.notNew hq
  have G1 := G.upd_new (o := .lst []) hq
  have nd := G.nd
  have np : a.p ≠ q := fun z => hn (by rw [← z]; simp [GA.ft])
  refine ⟨_, hσ, a.p, C, a.dx, _, rfl, G1.ob, c, n, (by show 14 < 1000; decide), ?_⟩
  have f1 : Frm a.ft H a.ft (upd (upd H q (.lst [])) a.p (.ins C a.dx (putF "going" (.ref q) (gF a g)))) := (Frm.new (F := a.ft) hq).trans (Frm.upd (by simp [GA.ft]) G1.ob trivial)
  have tt := f1.tup
  have kp : ∀ b o, H b = some o → b ∈ [a.near, a.knows, a.waits, a.debts, a.seats, a.past, a.going] → (upd (upd H q (.lst [])) a.p (.ins C a.dx (putF "going" (.ref q) (gF a g)))) b = some o := fun b o e hb => by
    have n1 : b ≠ a.p := fun z => (List.nodup_cons.mp nd).1 (z ▸ hb)
    rw [upd_ne n1, upd_ne (ne_of_none e hq)]
    exact e
  have nd' : ({ a with going := q } : GA).ft.Nodup := by
    simp only [GA.ft, List.nodup_cons, List.mem_cons, List.not_mem_nil, or_false, not_or, not_false_eq_true, and_true, List.nodup_nil] at nd hn ⊢
    grind
  refine k _
    { ob := upd_same
      nr := G.nr.stay (fun o z => by rw [kp _ o z (by simp)]) tt
      kn := kp _ _ G.kn (by simp)
      wt := kp _ _ G.wt (by simp)
      db := kp _ _ G.db (by simp)
      st := kp _ _ G.st (by simp)
      pa := G.pa.stay (fun o z => by rw [kp _ o z (by simp)]) fun _ _ q => q.stay tt
      go := ⟨[], by rw [upd_ne (Ne.symm np), upd_same], .nil⟩
      nd := nd' } (f1.to fun b hb => ?_) (fun o z => kp _ o z (by simp)) ?_
  · simp only [GA.ft, List.mem_cons, List.not_mem_nil, or_false] at hb ⊢
    grind
  · simp only [GA.ft, List.nodup_cons, List.mem_cons, List.not_mem_nil, or_false, not_or, not_false_eq_true, and_true, List.nodup_nil] at nd hn ⊢
    grind
/-- waits = knows; knows = a new empty list -/
theorem GuestAt.sto_swap (G : GuestAt K C H a g) {q : Addr} (hq : H q = none) :
    let H1 := upd H a.p (.ins C a.dx (putF "waits" (.ref a.knows) (gF a g)))
    let H2 := upd (upd H1 q (.lst [])) a.p (.ins C a.dx (putF "knows" (.ref q) (putF "waits" (.ref a.knows) (gF a g))))
    GuestAt K C H2 { a with knows := q, waits := a.knows } { g with waits := g.knows, knows := [] } ∧ Frm a.ft H ({ a with knows := q, waits := a.knows } : GA).ft H2 := by
  intro H1 H2
  have hn := G.notNew hq
  have nd := G.nd
  have np : a.p ≠ q := fun z => hn (by rw [← z]; simp [GA.ft])
  have f0 : Frm a.ft H a.ft H1 := Frm.upd (by simp [GA.ft]) G.ob trivial
  have hq1 : H1 q = none := by
    show (upd H a.p _) q = none
    rw [upd_ne (Ne.symm np)]
    exact hq
  have o1 : (upd H1 q (.lst [])) a.p = some (.ins C a.dx (putF "waits" (.ref a.knows) (gF a g))) := by
    rw [upd_ne np]
    exact upd_same
  have f1 : Frm a.ft H a.ft H2 := f0.trans ((Frm.new hq1).trans (Frm.upd (by simp [GA.ft]) o1 trivial))
  have tt := f1.tup
  have kp : ∀ b o, H b = some o → b ∈ [a.near, a.knows, a.waits, a.debts, a.seats, a.past, a.going] → H2 b = some o := fun b o e hb => by
    have n1 : b ≠ a.p := fun z => (List.nodup_cons.mp nd).1 (z ▸ hb)
    show (upd (upd (upd H a.p _) q _) a.p _) b = some o
    rw [upd_ne n1, upd_ne (ne_of_none e hq), upd_ne n1]
    exact e
  have nd' : ({ a with knows := q, waits := a.knows } : GA).ft.Nodup := by
    simp only [GA.ft, List.nodup_cons, List.mem_cons, List.not_mem_nil, or_false, not_or, not_false_eq_true, and_true, List.nodup_nil] at nd hn ⊢
    grind
  refine ⟨
    { ob := upd_same
      nr := G.nr.stay (fun o z => by rw [kp _ o z (by simp)]) tt
      kn := by
        show (upd (upd H1 q _) a.p _) q = _
        rw [upd_ne (Ne.symm np), upd_same]
        rfl
      wt := kp _ _ G.kn (by simp)
      db := kp _ _ G.db (by simp)
      st := kp _ _ G.st (by simp)
      pa := G.pa.stay (fun o z => by rw [kp _ o z (by simp)]) fun _ _ q => q.stay tt
      go := G.go.stay (fun o z => by rw [kp _ o z (by simp)]) fun _ _ q => q.stay tt
      nd := nd' }, f1.to fun b hb => ?_⟩
  simp only [GA.ft, List.mem_cons, List.not_mem_nil, or_false] at hb ⊢
  grind
/-- debts is changed in place -/
theorem GuestAt.in_debts (G : GuestAt K C H a g) {l : List Str} : GuestAt K C (upd H a.debts (.lst (l.map V.str))) a { g with debts := l } ∧ Frm a.ft H a.ft (upd H a.debts (.lst (l.map V.str))) := by
  have f1 : Frm a.ft H a.ft (upd H a.debts (.lst (l.map V.str))) := Frm.upd (by simp [GA.ft]) G.db trivial
  have tt := f1.tup
  have nd := G.nd
  have kp : ∀ b o, H b = some o → b ∈ a.p :: [a.near, a.knows, a.waits, a.seats, a.past, a.going] → (upd H a.debts (.lst (l.map V.str))) b = some o := fun b o e hb => by
    have n1 : b ≠ a.debts := fun z => by
      simp only [GA.ft, List.nodup_cons, List.mem_cons, List.not_mem_nil, or_false, not_or, not_false_eq_true, and_true, List.nodup_nil] at nd hb
      grind
    rw [upd_ne n1]
    exact e
  exact ⟨
    { ob := kp _ _ G.ob (by simp)
      nr := G.nr.stay (fun o z => kp _ o z (by simp)) tt
      kn := kp _ _ G.kn (by simp)
      wt := kp _ _ G.wt (by simp)
      st := kp _ _ G.st (by simp)
      pa := G.pa.stay (fun o z => kp _ o z (by simp)) fun _ _ q => q.stay tt
      go := G.go.stay (fun o z => kp _ o z (by simp)) fun _ _ q => q.stay tt
      db := upd_same
      nd := nd }, f1⟩
/-- seats is changed in place -/
theorem GuestAt.in_seats (G : GuestAt K C H a g) {l : List Str} : GuestAt K C (upd H a.seats (.lst (l.map V.str))) a { g with seats := l } ∧ Frm a.ft H a.ft (upd H a.seats (.lst (l.map V.str))) := by
  have f1 : Frm a.ft H a.ft (upd H a.seats (.lst (l.map V.str))) := Frm.upd (by simp [GA.ft]) G.st trivial
  have tt := f1.tup
  have nd := G.nd
  have kp : ∀ b o, H b = some o → b ∈ a.p :: [a.near, a.knows, a.waits, a.debts, a.past, a.going] → (upd H a.seats (.lst (l.map V.str))) b = some o := fun b o e hb => by
    have n1 : b ≠ a.seats := fun z => by
      simp only [GA.ft, List.nodup_cons, List.mem_cons, List.not_mem_nil, or_false, not_or, not_false_eq_true, and_true, List.nodup_nil] at nd hb
      grind
    rw [upd_ne n1]
    exact e
  exact ⟨
    { ob := kp _ _ G.ob (by simp)
      nr := G.nr.stay (fun o z => kp _ o z (by simp)) tt
      kn := kp _ _ G.kn (by simp)
      wt := kp _ _ G.wt (by simp)
      db := kp _ _ G.db (by simp)
      pa := G.pa.stay (fun o z => kp _ o z (by simp)) fun _ _ q => q.stay tt
      go := G.go.stay (fun o z => kp _ o z (by simp)) fun _ _ q => q.stay tt
      st := upd_same
      nd := nd }, f1⟩
/-- going is changed in place -/
theorem GuestAt.in_going (G : GuestAt K C H a g) {l : List (Str × List Str)} {xs : List V} (hx : Paired (goR K H) l xs) : GuestAt K C (upd H a.going (.lst xs)) a { g with going := l } ∧ Frm a.ft H a.ft (upd H a.going (.lst xs)) := by
  obtain ⟨ys, oe, _⟩ := id G.go
  have f1 : Frm a.ft H a.ft (upd H a.going (.lst xs)) := Frm.upd (by simp [GA.ft]) oe trivial
  have tt := f1.tup
  have nd := G.nd
  have kp : ∀ b o, H b = some o → b ∈ a.p :: [a.near, a.knows, a.waits, a.debts, a.seats, a.past] → (upd H a.going (.lst xs)) b = some o := fun b o e hb => by
    have n1 : b ≠ a.going := fun z => by
      simp only [GA.ft, List.nodup_cons, List.mem_cons, List.not_mem_nil, or_false, not_or, not_false_eq_true, and_true, List.nodup_nil] at nd hb
      grind
    rw [upd_ne n1]
    exact e
  exact ⟨
    { ob := kp _ _ G.ob (by simp)
      nr := G.nr.stay (fun o z => kp _ o z (by simp)) tt
      kn := kp _ _ G.kn (by simp)
      wt := kp _ _ G.wt (by simp)
      db := kp _ _ G.db (by simp)
      st := kp _ _ G.st (by simp)
      pa := G.pa.stay (fun o z => kp _ o z (by simp)) fun _ _ q => q.stay tt
      go := ⟨xs, upd_same, Paired.mapP hx fun _ _ q => q.stay tt⟩
      nd := nd }, f1⟩
/-- past is changed in place -/
theorem GuestAt.in_past (G : GuestAt K C H a g) {l : List (Option Str × Option Str)} {xs : List V} (hx : Paired (pastR H) l xs) : GuestAt K C (upd H a.past (.lst xs)) a { g with past := l } ∧ Frm a.ft H a.ft (upd H a.past (.lst xs)) := by
  obtain ⟨ys, oe, _⟩ := id G.pa
  have f1 : Frm a.ft H a.ft (upd H a.past (.lst xs)) := Frm.upd (by simp [GA.ft]) oe trivial
  have tt := f1.tup
  have nd := G.nd
  have kp : ∀ b o, H b = some o → b ∈ a.p :: [a.near, a.knows, a.waits, a.debts, a.seats, a.going] → (upd H a.past (.lst xs)) b = some o := fun b o e hb => by
    have n1 : b ≠ a.past := fun z => by
      simp only [GA.ft, List.nodup_cons, List.mem_cons, List.not_mem_nil, or_false, not_or, not_false_eq_true, and_true, List.nodup_nil] at nd hb
      grind
    rw [upd_ne n1]
    exact e
  exact ⟨
    { ob := kp _ _ G.ob (by simp)
      nr := G.nr.stay (fun o z => kp _ o z (by simp)) tt
      kn := kp _ _ G.kn (by simp)
      wt := kp _ _ G.wt (by simp)
      db := kp _ _ G.db (by simp)
      st := kp _ _ G.st (by simp)
      go := G.go.stay (fun o z => kp _ o z (by simp)) fun _ _ q => q.stay tt
      pa := ⟨xs, upd_same, Paired.mapP hx fun _ _ q => q.stay tt⟩
      nd := nd }, f1⟩
/-- near is changed in place -/
theorem GuestAt.in_near (G : GuestAt K C H a g) {l : List (Str × Option (Str × Nat))} {xs : List (Key × V)} (hx : Paired (nearR H) l xs) : GuestAt K C (upd H a.near (.dK xs)) a { g with near := l } ∧ Frm a.ft H a.ft (upd H a.near (.dK xs)) := by
  obtain ⟨ys, oe, _⟩ := id G.nr
  have f1 : Frm a.ft H a.ft (upd H a.near (.dK xs)) := Frm.upd (by simp [GA.ft]) oe trivial
  have tt := f1.tup
  have nd := G.nd
  have kp : ∀ b o, H b = some o → b ∈ a.p :: [a.knows, a.waits, a.debts, a.seats, a.past, a.going] → (upd H a.near (.dK xs)) b = some o := fun b o e hb => by
    have n1 : b ≠ a.near := fun z => by
      simp only [GA.ft, List.nodup_cons, List.mem_cons, List.not_mem_nil, or_false, not_or, not_false_eq_true, and_true, List.nodup_nil] at nd hb
      grind
    rw [upd_ne n1]
    exact e
  exact ⟨
    { ob := kp _ _ G.ob (by simp)
      kn := kp _ _ G.kn (by simp)
      wt := kp _ _ G.wt (by simp)
      db := kp _ _ G.db (by simp)
      st := kp _ _ G.st (by simp)
      pa := G.pa.stay (fun o z => kp _ o z (by simp)) fun _ _ q => q.stay tt
      go := G.go.stay (fun o z => kp _ o z (by simp)) fun _ _ q => q.stay tt
      nr := ⟨xs, upd_same, Paired.mapP hx fun _ _ q => q.stay tt⟩
      nd := nd }, f1⟩
end
end Ha

/-! The guest's defs, first part: tell, gone, words_heard, given. -/
namespace Ha
open PySem PySem.Spec PyProof.Rows L2
/-! ### the dict of what is near -/
theorem near_keys {H : Hp} : ∀ {l : List (Str × Option (Str × Nat))} {kvs : List (Key × V)}, Paired (nearR H) l kvs → kvs.map (·.1) = (l.map (·.1)).map Sum.inr
  | _, _, .nil => rfl
  | _, _, .cons r t => by rw [List.map_cons, List.map_cons, List.map_cons, near_keys t, r.1]
/-- what stands in the dict for a house's told word -/
def toldR (H : Hp) (t : Option (Str × Nat)) (v : V) : Prop := match t with
  | none => v = .non
  | some (w, n) => ∃ a, v = .ref a ∧ H a = some (.tup [.str w, .int (n : Int)])
theorem inr_eq {a b : Str} : ((Sum.inr a : Key) = Sum.inr b) ↔ a = b := ⟨fun e => Sum.inr.inj e, fun e => by rw [e]⟩
theorem near_get {H : Hp} {h : Str} : ∀ {l : List (Str × Option (Str × Nat))} {kvs : List (Key × V)}, Paired (nearR H) l kvs → h ∈ l.map (·.1) → ∃ v, valV kvs (Sum.inr h : Key) = some v ∧ toldR H (nearAt l h) v
  | _, _, .nil, m => by simp at m
  | _, _, .cons (a := p) (b := kv) r t, m => by
    by_cases e : p.1 = h
    · refine ⟨kv.2, valV_pos (by rw [r.1, e]), ?_⟩
      obtain ⟨p1, p2⟩ := p
      have e' : p1 = h := e
      show toldR H (if p1 = h then p2 else _) kv.2
      rw [if_pos e']
      exact r.2
    · have m' : h ∈ List.map Prod.fst _ := (List.mem_cons.mp m).resolve_left fun z => e z.symm
      obtain ⟨v, h1, h2⟩ := near_get t m'
      refine ⟨v, ?_, ?_⟩
      · rw [valV_neg (by rw [r.1, inr_eq]; exact e)]
        exact h1
      · obtain ⟨p1, p2⟩ := p
        have e' : ¬ p1 = h := e
        show toldR H (if p1 = h then p2 else _) v
        rw [if_neg e']
        exact h2
theorem near_no {H : Hp} {h : Str} {l : List (Str × Option (Str × Nat))} {kvs : List (Key × V)} (p : Paired (nearR H) l kvs) (m : h ∉ l.map (·.1)) : valV kvs (Sum.inr h : Key) = none := by
  cases e : valV kvs (Sum.inr h : Key) with
  | none => rfl
  | some v =>
    have q := valV_in e
    rw [near_keys p] at q
    obtain ⟨x, hx, ex⟩ := List.mem_map.mp q
    exact absurd (inr_eq.mp ex ▸ hx) m
theorem toldR.stay {H H' : Hp} (t : TStay H H') {o : Option (Str × Nat)} {v : V} (h : toldR H o v) : toldR H' o v := by
  cases o with
  | none => exact h
  | some z =>
    obtain ⟨a, e1, e2⟩ := h
    exact ⟨a, e1, t _ _ e2⟩
theorem sz5 {n : Nat} (h : n ≤ 100000) : n < sizeLine := Nat.lt_of_le_of_lt h (by decide)
theorem sz5' {n : Nat} (h : n ≤ 100000) : n ≤ sizeLine := Nat.le_of_lt (sz5 h)
theorem paired_len {α β : Type} {F : α → β → Prop} {xs : List α} {ys : List β} (p : Paired F xs ys) : ys.length = xs.length := (Paired.length p).symm
/-! ### promises -/
def spTell (K : PySem.W.Frag) (C : Addr) : Sp := fun vs H Q _ => ∃ (a : GA) (g : G) (h : Str) (b : Addr) (l : List Str), vs = [.ref a.p, .str h, .ref b] ∧ GuestAt K C H a g ∧ TupS K H b l ∧ g.going.length ≤ 100000 ∧
  ∀ H', GuestAt K C H' a (tell g h l) → Frm a.ft H a.ft H' → Q .non H'
/-- the told letters leave, in a list of the asker's own -/
def spGone (K : PySem.W.Frag) (C : Addr) : Sp := fun vs H Q _ => ∃ (a : GA) (g : G), vs = [.ref a.p] ∧ GuestAt K C H a g ∧
  ∀ a' H', a'.p = a.p → GuestAt K C H' a' (gone g) → Frm a.ft H a'.ft H' → a.going ∉ a'.ft → LstR (goR K) H' a.going g.going → Q (.ref a.going) H'
def spWords (K : PySem.W.Frag) (C : Addr) : Sp := fun vs H Q _ => ∃ (a : GA) (g : G) (ah : Bool), vs = [.ref a.p, .bl ah] ∧ GuestAt K C H a g ∧ g.near.length ≤ 100000 ∧
  ∀ q H', GuestAt K C H' a g → Frm a.ft H a.ft H' → H' q = some (.lst ((words g ah).map oV)) → Q (.ref q) H'
def spGiven (K : PySem.W.Frag) (C : Addr) : Sp := fun vs H Q _ => ∃ (a : GA) (g : G) (ah : Bool), vs = [.ref a.p, .bl ah] ∧ GuestAt K C H a g ∧ g.near.length ≤ 100000 ∧
  ∀ H', GuestAt K C H' a g → Frm a.ft H a.ft H' → Q (oV (given g ah)) H'
section
variable {P : Program} {w : World} {K : PySem.W.Frag} {mg : Str → Option Value} {base : Heap}
theorem ok_tell (T : Tx K mg) : FnOk P w K mg base CX0 1 T.d_tell.f T.d_tell.fd ["self", "house", "letter"] (spTell K T.C) := by
  refine T.d_tell.F.ok sc_tell (fun vs H Q E h => ?_) (fun cdv A outer s H vs Q E hr h => ?_)
  · obtain ⟨a, g, h, b, l, rfl, _⟩ := h
    rfl
  · obtain ⟨a, g, h, b, l, rfl, G, tb, hl, k⟩ := h
    refine ⟨_, pss_one (ps_expr (pe_bm PySem.F.plainAttrs_list PySem.F.slot_list_append PySem.F.type_list_append mt_append (pe_fld (pv 0) rfl) (pa_cons (pe_tup (pa_cons (pv 1) (pa_cons (pv 2) pa_nil))) pa_nil))), ?_⟩
    refine rd_drop (rd_bm (G.fld T.cl T.n_going ?_))
    obtain ⟨xs, hx, hp⟩ := G.go
    refine ⟨.inl ⟨rfl, _, SqL.of hx⟩, _, rfl, _, rfl, (by show 2 ≤ sizeLine; decide), fun t ht => ?_⟩
    have G1 := G.upd_new (o := .tup [.str h, .ref b]) ht
    have f1 : Frm a.ft H a.ft (upd H t (.tup [.str h, .ref b])) := Frm.new ht
    refine ⟨a.going, xs, _, rfl, rfl, ?_, sz5 (by rw [paired_len hp]; exact hl), ?_⟩
    · rw [upd_ne (ne_of_none hx ht)]
      exact hx
    · obtain ⟨G2, f2⟩ := G1.in_going (l := g.going ++ [(h, l)]) (xs := xs ++ [.ref t]) ((Paired.mapP hp fun _ _ q => q.stay f1.tup).snoc ⟨t, b, rfl, upd_same, tb.stay f1.tup⟩)
      exact k _ G2 (f1.trans f2)
theorem ok_gone (T : Tx K mg) : FnOk P w K mg base CX0 1 T.d_gone.f T.d_gone.fd ["self"] (spGone K T.C) := by
  refine T.d_gone.F.ok sc_gone (fun vs H Q E h => ?_) (fun cdv A outer s H vs Q E hr h => ?_)
  · obtain ⟨a, g, rfl, _⟩ := h
    rfl
  · obtain ⟨a, g, rfl, G, k⟩ := h
    have nd := sc_gone.nd
    refine ⟨_, pss_cons (ps_set (i := 1) nd rfl (.inl rfl) (pe_fld (pv 0) rfl)) (pss_cons (ps_fld (pv 0) (pe_lst pa_nil) rfl) (pss_one (ps_ret (pv 1)))), ?_⟩
    refine G.fld T.cl T.n_going ?_
    refine ⟨Nat.zero_le _, fun q hq => ?_⟩
    refine G.sto_going hq T.cl T.n_going fun H1 G1 f1 hk hn => ?_
    refine ⟨_, rfl, ?_⟩
    exact k _ _ (by rfl) G1 f1 hn (G.go.stay hk fun _ _ z => z.stay f1.tup)
theorem words_at (g : G) (ah : Bool) {i : Nat} {h : Str} (e : (srt g.keys)[i]? = some h) : (words g ah).take (i + 1) = (words g ah).take i ++ [tellW ah g.since (nearAt g.near h)] := by
  unfold words
  rw [List.take_add_one, List.getElem?_map, e]
  rfl
theorem words_len (g : G) (ah : Bool) : (words g ah).length = g.near.length := by
  unfold words
  rw [List.length_map, srt_len, keys_len]
theorem ok_words (T : Tx K mg) : FnOk P w K mg base CX0 1 T.d_words_heard.f T.d_words_heard.fd ["self", "is_ahead"] (spWords K T.C) := by
  refine T.d_words_heard.F.ok sc_words_heard (fun vs H Q E h => ?_) (fun cdv A outer s H vs Q E hr h => ?_)
  · obtain ⟨a, g, ah, rfl, _⟩ := h
    rfl
  · obtain ⟨a, g, ah, rfl, G, hl, k⟩ := h
    have nd := sc_words_heard.nd
    have hu := hu_of hr
    refine ⟨_, pss_cons (ps_set (i := 2) nd rfl (.inl rfl) (pe_lst pa_nil))
      (pss_cons (ps_for PassesOwn.never rfl (pi_list (pe_callB (cr_sortedDA rfl) (by rfl) T.b_sorted (by decide +kernel) (pa_cons (pe_fld (pv 0) rfl) pa_nil))) (pg_name (i := 3) nd rfl (.inl rfl))
        (pss_cons (ps_set (i := 4) nd rfl (.inl rfl) (pe_dget hu (pe_fld (pv 0) rfl) (pv 3) (fun _ _ => rfl)))
        (pss_cons (ps_set (i := 5) nd rfl (.inl rfl) (pe_and (pe_cmp (pc_notN (pv 4)) rfl) (pe_one (pe_or (pe_not (pv 1)) (pe_one (pe_cmpR op_le (pe_ix ix_tup (pv 4) pe_int (fun _ _ => rfl)) (pe_fld (pv 0) rfl) (nomark _)))))))
        (pss_one (ps_expr (pe_bm PySem.F.plainAttrs_list PySem.F.slot_list_append PySem.F.type_list_append mt_append (pv 2) (pa_cons (pe_ifExp (pt_val (pv 5)) (pe_ix ix_tup (pv 4) pe_int (fun _ _ => rfl)) pe_non) pa_nil)))))))
      (pss_one (ps_ret (pv 2)))), ?_⟩
    refine ⟨Nat.zero_le _, fun q hq => ?_⟩
    have G1 := G.upd_new (o := .lst []) hq
    have f1 : Frm a.ft H a.ft (upd H q (.lst [])) := Frm.new hq
    obtain ⟨kvs, hd, hp⟩ := id G1.nr
    refine G1.fld T.cl T.n_near ?_
    refine ⟨a.near, kvs, g.keys, rfl, .inl hd, near_keys hp, fun ys p perm sorted hpn => ?_⟩
    have ey : ys = srt g.keys := srt_of perm sorted
    subst ey
    have G2 := G1.upd_new (o := .lst ((srt g.keys).map V.str)) hpn
    have f2 := f1.trans (Frm.new (F := a.ft) (o' := .lst ((srt g.keys).map V.str)) hpn)
    have hqp : q ≠ p := ne_of_none upd_same hpn
    have hqf : q ∉ a.ft := G.notNew hq
    refine ⟨p, rfl, ⟨_, SqL.of upd_same⟩, for_list (K := K) (a := p) (xs := (srt g.keys).map V.str) (fun i σ H' => ∃ v3 v4 v5, σ = [some (.ref a.p), some (.bl ah), some (.ref q), v3, v4, v5] ∧ GuestAt K T.C H' a g ∧ Frm a.ft H a.ft H' ∧
        H' q = some (.lst (((words g ah).take i).map oV)) ∧ H' p = some (.lst ((srt g.keys).map V.str)))
      ⟨none, none, none, rfl, G2, f2, (by rw [upd_ne hqp, upd_same]; rfl), upd_same⟩ (fun i σ H' _ ⟨_, _, _, _, _, _, _, e⟩ => SqL.of e) ?_ ?_⟩
    · rintro i y σ H' hi ⟨v3, v4, v5, rfl, G', f', e1, e2⟩
      rw [List.getElem?_map] at hi
      obtain ⟨h, hh, rfl⟩ := Option.map_eq_some_iff.mp hi
      have hmem : h ∈ g.near.map (·.1) := srt_mem.mp (List.mem_of_getElem? hh)
      obtain ⟨kvs', hd', hp'⟩ := id G'.nr
      obtain ⟨v, hv, tv⟩ := near_get hp' hmem
      have hw := words_at g ah hh
      have hil : i < g.near.length := by
        have := (List.getElem?_eq_some_iff.mp hh).1
        rw [srt_len, keys_len] at this
        exact this
      refine rd_seq (rd_asg (rd_dget (G'.fld T.cl T.n_near ?_)))
      refine ⟨_, rfl, a.near, v, rfl, hv ▸ DGet.k (k := Sum.inr h) hd', ?_⟩
      have tl : (((words g ah).take i).map oV).length < sizeLine := by
        rw [List.length_map, List.length_take]
        exact sz5 (by omega)
      have fin : ∀ (z : Option Str) (t5 : Option V), tellW ah g.since (nearAt g.near h) = z → ∃ v3 v4 v5, [some (V.ref a.p), some (V.bl ah), some (V.ref q), some (V.str h), some v, t5] = [some (.ref a.p), some (.bl ah), some (.ref q), v3, v4, v5] ∧ GuestAt K T.C (upd H' q (.lst (((words g ah).take i).map oV ++ [oV z]))) a g ∧ Frm a.ft H a.ft (upd H' q (.lst (((words g ah).take i).map oV ++ [oV z]))) ∧
          (upd H' q (.lst (((words g ah).take i).map oV ++ [oV z]))) q = some (.lst (((words g ah).take (i + 1)).map oV)) ∧ (upd H' q (.lst (((words g ah).take i).map oV ++ [oV z]))) p = some (.lst ((srt g.keys).map V.str)) := by
        intro z t5 ez
        have fq : Frm [q] H' [q] (upd H' q (.lst (((words g ah).take i).map oV ++ [oV z]))) := Frm.upd (by simp) e1 trivial
        refine ⟨_, _, _, rfl, G'.off fq (fun b hb hb' => hqf ((List.mem_singleton.mp hb') ▸ hb)), ?_, ?_, ?_⟩
        · refine ⟨fun b xs e => fq.tup b xs (f'.tup b xs e), fun b o e hb => fq.keep b o (f'.keep b o e hb) fun hb' => ?_, f'.sub⟩
          rw [List.mem_singleton.mp hb', hq] at e
          cases e
        · rw [upd_same, hw, List.map_append, ez]
          rfl
        · rw [upd_ne (Ne.symm hqp)]
          exact e2
      cases hn : nearAt g.near h with
      | none =>
        rw [hn] at tv
        have tv' : v = .non := tv
        subst tv'
        refine ⟨_, rfl, false, rfl, iteF ?_⟩
        refine ⟨_, rfl, .inl ⟨rfl, _, SqL.of e1⟩, _, rfl, false, rfl, iteF ?_⟩
        refine ⟨q, _, _, rfl, rfl, e1, tl, ?_⟩
        exact fin none _ (by rw [hn]; rfl)
      | some z =>
        obtain ⟨wd, n⟩ := z
        rw [hn] at tv
        obtain ⟨ta, rfl, hta⟩ := tv
        refine ⟨_, rfl, true, rfl, iteT ?_⟩
        cases ah with
        | false =>
          refine ⟨_, rfl, false, rfl, true, rfl, iteT ?_⟩
          refine ⟨_, rfl, .inl ⟨rfl, _, SqL.of e1⟩, _, rfl, true, rfl, iteT ?_⟩
          refine ⟨_, rfl, ta, _, _, _, rfl, rfl, SqT.of hta, rfl, ?_⟩
          refine ⟨q, _, _, rfl, rfl, e1, tl, ?_⟩
          exact fin (some wd) _ (by rw [hn]; rfl)
        | true =>
          refine ⟨_, rfl, true, rfl, false, rfl, iteF ?_⟩
          refine ⟨_, rfl, ta, _, _, _, rfl, rfl, SqT.of hta, rfl, ?_⟩
          refine G'.fld T.cl T.n_since ?_
          refine ⟨_, _, rfl, rfl, ?_⟩
          refine ⟨_, rfl, .inl ⟨rfl, _, SqL.of e1⟩, _, rfl, _, rfl, ?_⟩
          by_cases hc : n ≤ g.since
          · have hc' : ((n : Int) ≤ (g.since : Int)) := by omega
            rw [decide_eq_true hc']
            refine iteT ?_
            refine ⟨_, rfl, ta, _, _, _, rfl, rfl, SqT.of hta, rfl, ?_⟩
            refine ⟨q, _, _, rfl, rfl, e1, tl, ?_⟩
            exact fin (some wd) _ (by rw [hn]; show (if (!true || decide (n ≤ g.since)) = true then some wd else none) = some wd; rw [decide_eq_true hc]; rfl)
          · have hc' : ¬ ((n : Int) ≤ (g.since : Int)) := by omega
            rw [decide_eq_false hc']
            refine iteF ?_
            refine ⟨q, _, _, rfl, rfl, e1, tl, ?_⟩
            exact fin none _ (by rw [hn]; show (if (!true || decide (n ≤ g.since)) = true then some wd else none) = none; rw [decide_eq_false hc]; rfl)
    · rintro σ H' ⟨v3, v4, v5, rfl, G', f', e1, e2⟩
      refine ⟨_, rfl, ?_⟩
      refine k q H' G' f' ?_
      rw [e1, List.length_map, srt_len, keys_len, ← words_len g ah, List.take_length]
end
end Ha

/-! The guest's defs, second part: given, settle, look where it has no word, close, give_up, look. -/
namespace Ha
open PySem PySem.Spec PyProof.Rows L2
theorem pe_gs {X : Cx} {x v : Str} {pos : Pos} (hm : ∃ t, X.mg x = some (.str v t)) (hg : Gl X x := by rfl) (hd : (x == ("__debug__" : Str)) = false := by decide) : PE X (.Name x pos) (tC (.str v)) := by
  obtain ⟨t, e⟩ := hm
  exact pe_glob hg e ⟨t, rfl⟩ hd
theorem pe_gi {X : Cx} {x : Str} {v : Int} {pos : Pos} (hm : ∃ t, X.mg x = some (.int v t)) (hg : Gl X x := by rfl) (hd : (x == ("__debug__" : Str)) = false := by decide) : PE X (.Name x pos) (tC (.int v)) := by
  obtain ⟨t, e⟩ := hm
  exact pe_glob hg e ⟨t, rfl⟩ hd
theorem fnFalse {P : Program} {w : World} {K : PySem.W.Frag} {mg : Str → Option Value} {base : Heap} {CX : CXT} {k : Nat} {f : Addr} {fd : FuncData} {ps : List Str} : FnOk P w K mg base CX k f fd ps (fun _ _ _ _ => False) :=
  ⟨fun _ _ _ _ h => h.elim, fun _ _ _ _ _ _ _ _ _ _ _ _ _ h => h.elim⟩
theorem tellAll_nil (g : G) (l : List Str) : tellAll g [] l = g := by
  unfold tellAll
  rw [List.map_nil, List.append_nil]
theorem tellAll_step {g : G} {xs : List Str} {l : List Str} {i : Nat} {h : Str} (e : xs[i]? = some h) : tell (tellAll g (xs.take i) l) h l = tellAll g (xs.take (i + 1)) l := by
  unfold tell tellAll
  rw [List.take_add_one, e, List.map_append]
  show ({ g with going := (g.going ++ _) ++ [(h, l)] } : G) = _
  rw [List.append_assoc]
  rfl
def Lim (g : G) : Prop := Fit 6000 90000 90000 g
theorem tellAll_go {g : G} {xs : List Str} {l : List Str} {i : Nat} (f : g.going.length ≤ 90000) (h : xs.length ≤ 6000) : (tellAll g (xs.take i) l).going.length ≤ 100000 := by
  show (g.going ++ (xs.take i).map _).length ≤ 100000
  rw [List.length_append, List.length_map, List.length_take]
  omega
/-- a mutator's promise: from the mirror state g to f g -/
def Post (K : PySem.W.Frag) (C : Addr) (a : GA) (H : Hp) (g' : G) (Q : VK) : Prop := ∀ a' H', a'.p = a.p → GuestAt K C H' a' g' → Frm a.ft H a'.ft H' → Q .non H'
def spSettle (K : PySem.W.Frag) (C : Addr) : Sp := fun vs H Q _ => ∃ (a : GA) (g : G) (wd : Str), vs = [.ref a.p, .str wd] ∧ GuestAt K C H a g ∧ Lim g ∧ Post K C a H (settle g wd) Q
def spLook (K : PySem.W.Frag) (C : Addr) (pre : G → Prop) : Sp := fun vs H Q _ => ∃ (a : GA) (g : G) (c : Option Str), vs = [.ref a.p, oV c] ∧ GuestAt K C H a g ∧ Lim g ∧ pre g ∧ Post K C a H (look g c) Q
def spClose (K : PySem.W.Frag) (C : Addr) : Sp := fun vs H Q _ => ∃ (a : GA) (g : G), vs = [.ref a.p] ∧ GuestAt K C H a g ∧ Fit 6000 80000 60000 g ∧ g.mark = none ∧ Post K C a H (close g) Q
def spGiveUp (K : PySem.W.Frag) (C : Addr) : Sp := fun vs H Q _ => ∃ (a : GA) (g : G) (c : Option Str), vs = [.ref a.p, oV c] ∧ GuestAt K C H a g ∧ Fit 6000 70000 50000 g ∧ Post K C a H (giveUp g c) Q
theorem eqv_oV (o : Option Str) (x : Str) : PyData.eqv (match o with | none => .none | some y => .str y) (.str x) = decide (o = some x) := by
  cases o with
  | none => rfl
  | some y =>
    simp only [PyData.eqv]
    by_cases h : y = x
    · subst h
      simp
    · have h' : ¬ some y = some x := fun e => h (Option.some.inj e)
      rw [decide_eq_false h']
      simpa using h
def oD : Option Str → PyData
  | none => .none
  | some x => .str x
theorem dp_oV {K : PySem.W.Frag} {H : Hp} (o : Option Str) : Dp K H (oV o) (oD o) := by
  cases o with
  | none => exact .non
  | some x => exact .str x
theorem dpAll_oV {K : PySem.W.Frag} {H : Hp} : ∀ l : List (Option Str), DpAll K H (l.map oV) (l.map oD)
  | [] => .nil
  | o :: r => .cons (dp_oV o) (dpAll_oV r)
theorem plainAll_oD : ∀ l : List (Option Str), PyData.plainAll (l.map oD) = true
  | [] => rfl
  | o :: r => by
    show (PyData.plain (oD o) && PyData.plainAll (r.map oD)) = true
    rw [plainAll_oD r]
    cases o <;> rfl
theorem count_oD (x : Str) : ∀ l : List (Option Str), (l.map oD).countP (fun z => PyData.eqv z (.str x)) = l.countP fun o => decide (o = some x)
  | [] => rfl
  | o :: r => by
    rw [List.map_cons, List.countP_cons, List.countP_cons, count_oD x r]
    have e : PyData.eqv (oD o) (.str x) = decide (o = some x) := eqv_oV o x
    rw [e]
theorem inV_oV (x : Str) : ∀ l : List (Option Str), inV (.str x) (l.map oV) = decide (some x ∈ l)
  | [] => by simp [inV]
  | o :: r => by
    have ih := inV_oV x r
    unfold inV at ih ⊢
    rw [List.map_cons, List.any_cons, ih]
    have e : eqV (oV o) (.str x) = decide (some x = o) := by
      cases o with
      | none => simp [oV, eqV]
      | some y =>
        by_cases h : x = y
        · subst h
          simp [oV, eqV]
        · have h2 : ¬ y = x := fun z => h z.symm
          simp [oV, eqV, h, h2]
    rw [e]
    by_cases h1 : some x = o
    · simp [h1]
    · simp [h1]
theorem flat_oV : ∀ l : List (Option Str), (l.map oV).all flatV = true
  | [] => rfl
  | o :: r => by
    rw [List.map_cons, List.all_cons, flat_oV r]
    cases o <;> rfl
section
variable {P : Program} {w : World} {K : PySem.W.Frag} {mg : Str → Option Value} {base : Heap}
theorem ok_given (T : Tx K mg) : FnOk P w K mg base CX0 2 T.d_given.f T.d_given.fd ["self", "is_ahead"] (spGiven K T.C) := by
  have GW : FnOk P w K mg base CX0 1 T.d_words_heard.f T.d_words_heard.fd ["self", "is_ahead"] (spWords K T.C) := ok_words T
  refine T.d_given.F.ok sc_given (fun vs H Q E h => ?_) (fun cdv A outer s H vs Q E hr h => ?_)
  · obtain ⟨a, g, ah, rfl, _⟩ := h
    rfl
  · obtain ⟨a, g, ah, rfl, G, hl, k⟩ := h
    have nd := sc_given.nd
    have hu : (A.deeper (envOfC "Guest.given" (defScope s_given) s.heap.objs.size T.d_given.f cdv)).units + 65 < cLine := by have := hr.un; omega
    refine ⟨_, pss_cons (ps_set (i := 2) nd rfl (.inl rfl) (pe_meth (pv 0) T.cl T.m_words_heard GW hr T.d_words_heard.b .nil pass0 (pa_cons (pv 1) pa_nil)))
      (pss_cons (ps_if (PW.pt (pw_or (pt_not (pt_val (pe_fld (pv 0) rfl))) (pw_or1 (pt_cmpR op_in_seq (pe_gs T.gBARRED) (pv 2) (by rfl))))) (pss_one (ps_ret (pe_gs T.gOUT))) pss_nil)
      (pss_one (ps_ret (pe_ifExp (pt_cmpR op_eq (pe_bm PySem.F.plainAttrs_list PySem.F.slot_list_count PySem.F.type_list_count (mt_countD hu) (pv 2) (pa_cons (pe_gs T.gCLEAR) pa_nil)) (pe_callB call_len_seq (by rfl) T.b_len PySem.boot_len (pa_cons (pv 2) pa_nil)) (nomark _)) (pe_gs T.gIN) pe_non)))), ?_⟩
    refine ⟨_, rfl, a.p, a.dx, _, rfl, G.ob, rfl, _, rfl, a, g, ah, rfl, G, hl, fun q H1 G1 f1 hq => ?_⟩
    refine ⟨_, rfl, a.p, T.C, a.dx, _, _, rfl, G1.ob, T.cl, T.n_wished, rfl, _, rfl, ?_⟩
    have k1 := k H1 G1 f1
    unfold given givenW at k1
    cases hw : g.wished with
    | false =>
      rw [hw, if_pos (.inl rfl)] at k1
      exact iteT (iteT k1)
    | true =>
      refine iteF ?_
      refine ⟨_, rfl, q, _, rfl, .inl (SqL.of hq), rfl, flat_oV _, _, rfl, ?_⟩
      show (if (if false = true then _ else inV (.str "barred") ((words g ah).map oV)) = true then _ else _)
      rw [if_neg Bool.false_ne_true, inV_oV]
      by_cases hb : some ("barred" : Str) ∈ words g ah
      · rw [if_pos (.inr hb)] at k1
        rw [decide_eq_true hb]
        exact iteT k1
      · rw [hw, if_neg (fun z => z.elim (fun e => nomatch e) hb)] at k1
        rw [decide_eq_false hb]
        refine iteF ?_
        refine ⟨_, rfl, .inl ⟨rfl, _, SqL.of hq⟩, q, _, .str "clear", _, rfl, rfl, .lst (SqL.of hq) (dpAll_oV _), .str _, plainAll_oD _, rfl, (by simp only [PyData.depth]; omega), ?_⟩
        rw [count_oD]
        refine ⟨_, rfl, q, _, rfl, .inl (SqL.of hq), rfl, _, rfl, ?_⟩
        rw [List.length_map]
        by_cases hc : (words g ah).countP (fun o => decide (o = some wClear)) = (words g ah).length
        · rw [if_pos hc] at k1
          have hc' : V.int (((words g ah).countP (fun o => decide (o = some ("clear" : Str))) : Nat) : Int) = V.int (((words g ah).length : Nat) : Int) := by
            rw [show (words g ah).countP (fun o => decide (o = some ("clear" : Str))) = (words g ah).length from hc]
          rw [decide_eq_true hc']
          exact iteT k1
        · rw [if_neg hc] at k1
          have hc' : ¬ V.int (((words g ah).countP (fun o => decide (o = some ("clear" : Str))) : Nat) : Int) = V.int (((words g ah).length : Nat) : Int) := fun e => hc (by
            injection e with e
            exact_mod_cast e)
          rw [decide_eq_false hc']
          exact iteF k1
theorem ok_settle (T : Tx K mg) : FnOk P w K mg base CX0 2 T.d_settle.f T.d_settle.fd ["self", "word"] (spSettle K T.C) := by
  have GT : FnOk P w K mg base CX0 1 T.d_tell.f T.d_tell.fd ["self", "house", "letter"] (spTell K T.C) := ok_tell T
  refine T.d_settle.F.ok sc_settle (fun vs H Q E h => ?_) (fun cdv A outer s H vs Q E hr h => ?_)
  · obtain ⟨a, g, wd, rfl, _⟩ := h
    rfl
  · obtain ⟨a, g, wd, rfl, G, hl, k⟩ := h
    have nd := sc_settle.nd
    refine ⟨_, pss_cons (ps_fld (pv 0) (pv 1) rfl) (pss_cons (ps_fld (pv 0) (pe_fld (pv 0) rfl) rfl)
      (pss_cons (ps_expr (pe_bm PySem.F.plainAttrs_list PySem.F.slot_list_append PySem.F.type_list_append mt_append (pe_fld (pv 0) rfl) (pa_cons (pe_tup (pa_cons (pv 1) (pa_cons pe_non pa_nil))) pa_nil)))
      (pss_cons (ps_fld (pv 0) (pe_callB (cr_sortedDA rfl) (by rfl) T.b_sorted (by decide +kernel) (pa_cons (pe_fld (pv 0) rfl) pa_nil)) rfl)
      (pss_one (ps_for PassesOwn.never rfl (pi_list (pe_fld (pv 0) rfl)) (pg_name (i := 2) nd rfl (.inl rfl)) (pss_one (ps_expr (pe_meth (pv 0) T.cl T.m_tell GT hr T.d_tell.b .nil pass0 (pa_cons (pv 2) (pa_cons (pe_tup (pa_cons (pe_gs T.gWORD) (pa_cons (pv 1) pa_nil))) pa_nil)))))))))), ?_⟩
    refine ⟨_, rfl, ?_⟩
    refine G.sto T.cl T.n_mark { g with mark := some wd } fun H1 G1 f1 => ?_
    refine ⟨_, rfl, a.p, T.C, a.dx, _, _, rfl, G1.ob, T.cl, T.n_ears, rfl, ?_⟩
    refine G1.sto T.cl T.n_since { g with mark := some wd, since := g.ears } fun H2 G2 f2 => ?_
    refine ⟨_, rfl, a.p, T.C, a.dx, _, _, rfl, G2.ob, T.cl, T.n_past, rfl, ?_⟩
    obtain ⟨xs, hx, hp⟩ := id G2.pa
    refine ⟨.inl ⟨rfl, _, SqL.of hx⟩, _, rfl, (by show 2 ≤ sizeLine; decide), fun t ht => ?_⟩
    have G3 := G2.upd_new (o := .tup [.str wd, .non]) ht
    have f3 : Frm a.ft H2 a.ft (upd H2 t (.tup [.str wd, .non])) := Frm.new ht
    refine ⟨a.past, xs, _, rfl, rfl, ?_, sz5 (by rw [paired_len hp]; have := hl.pa; exact Nat.le_trans this (by decide)), ?_⟩
    · rw [upd_ne (ne_of_none hx ht)]
      exact hx
    · obtain ⟨G4, f4⟩ := G3.in_past (l := g.past ++ [(some wd, none)]) (xs := xs ++ [.ref t]) ((Paired.mapP hp fun _ _ q => q.stay f3.tup).snoc ⟨t, rfl, upd_same⟩)
      have f04 := ((f1.trans f2).trans f3).trans f4
      generalize upd (upd H2 t (HO.tup [V.str wd, V.non])) a.past (HO.lst (xs ++ [V.ref t])) = H4 at G4 f4 f04 ⊢
      obtain ⟨kvs, hd, hpn⟩ := id G4.nr
      refine ⟨_, rfl, a.p, T.C, a.dx, _, _, rfl, G4.ob, T.cl, T.n_near, rfl, a.near, kvs, g.keys, rfl, .inl hd, near_keys hpn, fun ys p perm sorted hpf => ?_⟩
      have ey : ys = srt g.keys := srt_of perm sorted
      subst ey
      refine G4.sto_knows hpf T.cl T.n_knows fun H5 G5 f5 => ?_
      have f05 := f04.trans f5
      generalize ea : ({ a with knows := p } : GA) = b at G5 f5 f05
      have ep : b.p = a.p := by rw [← ea]
      have hkl : (srt g.keys).length ≤ 6000 := by
        rw [srt_len, keys_len]
        exact hl.n
      have go : ∀ i, (tellAll { g with mark := some wd, since := g.ears, past := g.past ++ [(some wd, none)], knows := srt g.keys } ((srt g.keys).take i) (lWord wd)).going.length ≤ 100000 := fun i => tellAll_go (l := lWord wd) (xs := srt g.keys) (i := i) hl.go hkl
      rw [← ep]
      refine ⟨_, rfl, b.p, T.C, b.dx, _, _, rfl, G5.ob, T.cl, T.n_knows, rfl, b.knows, rfl, ⟨_, SqL.of G5.kn⟩, for_list (K := K) (a := b.knows) (xs := (srt g.keys).map V.str) (fun i σ H' => ∃ v2, σ = [some (.ref b.p), some (.str wd), v2] ∧
        GuestAt K T.C H' b (tellAll { g with mark := some wd, since := g.ears, past := g.past ++ [(some wd, none)], knows := srt g.keys } ((srt g.keys).take i) (lWord wd)) ∧ Frm a.ft H b.ft H')
        ⟨none, rfl, (by rw [List.take_zero, tellAll_nil]; exact G5), f05⟩ (fun i σ H' _ ⟨_, _, e, _⟩ => SqL.of e.kn) ?_ ?_⟩
      · rintro i y σ H' hi ⟨v2, rfl, G', f'⟩
        rw [List.getElem?_map] at hi
        obtain ⟨h, hh, rfl⟩ := Option.map_eq_some_iff.mp hi
        refine ⟨_, rfl, b.p, b.dx, _, rfl, G'.ob, rfl, _, rfl, _, rfl, (by show 2 ≤ sizeLine; decide), fun t2 ht2 => ?_⟩
        have G6 := G'.upd_new (o := .tup [.str "word", .str wd]) ht2
        refine ⟨b, _, h, t2, lWord wd, rfl, G6, .inl upd_same, go i, fun H7 G7 f7 => ?_⟩
        refine ⟨_, rfl, ?_, (f'.trans (Frm.new ht2)).trans f7⟩
        rw [tellAll_step hh] at G7
        exact G7
      · rintro σ H' ⟨v2, rfl, G', f'⟩
        rw [List.length_map, List.take_length] at G'
        exact k b H' ep G' f'
end
end Ha

/-! The guest's defs, third part: look where it has no word, close, give_up, look, answered. -/
namespace Ha
open PySem PySem.Spec PyProof.Rows L2
def pre0 (g : G) : Prop := g.opened = true ∨ g.mark = none
def preA (_ : G) : Prop := True
section
variable {P : Program} {w : World} {K : PySem.W.Frag} {mg : Str → Option Value} {base : Heap}
theorem scal_oV (o m : Option Str) : scal (oV o) (oV m) = true := by
  cases o <;> cases m <;> rfl
theorem oV_inj {o m : Option Str} : oV o = oV m ↔ o = m := by
  cases o <;> cases m <;> simp [oV]
theorem ok_look_of (T : Tx K mg) {n : Nat} (hn : 2 ≤ n) {spU : Sp} (GU : FnOk P w K mg base CX0 n T.d_give_up.f T.d_give_up.fd ["self", "house"] spU) (pre : G → Prop)
    (hU : ∀ (a : GA) (g : G) (c : Option Str) (H : Hp) (Q : VK) (m : Str), GuestAt K T.C H a g → Fit 6000 60000 30000 g → pre g → g.opened = false → g.mark = some m → Post K T.C a H (giveUp g c) Q → spU [.ref a.p, oV c] H Q E0) :
    FnOk P w K mg base CX0 (n + 1) T.d_look.f T.d_look.fd ["self", "house"] (fun vs H Q E => ∃ (a : GA) (g : G) (c : Option Str), vs = [.ref a.p, oV c] ∧ GuestAt K T.C H a g ∧ Fit 6000 60000 30000 g ∧ pre g ∧ Post K T.C a H (look g c) Q) := by
  have GG : FnOk P w K mg base CX0 2 T.d_given.f T.d_given.fd ["self", "is_ahead"] (spGiven K T.C) := ok_given T
  have GS : FnOk P w K mg base CX0 2 T.d_settle.f T.d_settle.fd ["self", "word"] (spSettle K T.C) := ok_settle T
  refine T.d_look.F.ok sc_look (fun vs H Q E h => ?_) (fun cdv A outer s H vs Q E hr h => ?_)
  · obtain ⟨a, g, c, rfl, _⟩ := h
    rfl
  · obtain ⟨a, g, c, rfl, G, hl, hp, k⟩ := h
    have nd := sc_look.nd
    have hr2 : Room 2 _ := hr.mono hn
    refine ⟨_, pss_cons (ps_if (pt_val (pe_fld (pv 0) rfl)) (pss_one ps_retN) pss_nil)
      (pss_one (ps_if (pt_cmp (pc_isN (pe_fld (pv 0) rfl)))
        (pss_cons (ps_set (i := 2) nd rfl (.inl rfl) (pe_meth (pv 0) T.cl T.m_given GG hr2 T.d_given.b .nil pass0 (pa_cons pe_bl pa_nil)))
          (pss_one (ps_if (pt_cmp (pc_notN (pv 2))) (pss_one (ps_expr (pe_meth (pv 0) T.cl T.m_settle GS hr2 T.d_settle.b .nil pass0 (pa_cons (pv 2) pa_nil)))) pss_nil)))
        (pss_one (ps_if (pt_cmpR op_ne (pe_meth (pv 0) T.cl T.m_given GG hr2 T.d_given.b .nil pass0 (pa_cons pe_bl pa_nil)) (pe_fld (pv 0) rfl) (nomark _))
          (pss_one (ps_expr (pe_meth (pv 0) T.cl T.m_give_up GU hr T.d_give_up.b .nil pass0 (pa_cons (pv 1) pa_nil)))) pss_nil)))), ?_⟩
    refine ⟨_, rfl, a.p, T.C, a.dx, _, _, rfl, G.ob, T.cl, T.n_opened, rfl, _, rfl, ?_⟩
    unfold look at k
    have hl2 : Lim g := hl.mono (Nat.le_refl _) (by decide) (by decide)
    cases ho : g.opened with
    | true =>
      rw [if_pos ho] at k
      exact iteT (k a H rfl G (Frm.refl _ _))
    | false =>
      rw [if_neg (by rw [ho]; exact Bool.false_ne_true)] at k
      refine iteF ?_
      refine ⟨_, rfl, a.p, T.C, a.dx, _, _, rfl, G.ob, T.cl, T.n_mark, rfl, ?_⟩
      cases hm : g.mark with
      | none =>
        rw [hm] at k
        have k : Post K T.C a H (lookN g) Q := k
        refine ⟨_, rfl, iteT ?_⟩
        refine ⟨_, rfl, a.p, a.dx, _, rfl, G.ob, rfl, a, g, false, rfl, G, Nat.le_trans hl.n (by decide), fun H1 G1 f1 => ?_⟩
        unfold lookN at k
        cases hg : given g false with
        | none =>
          rw [hg] at k
          refine ⟨_, rfl, _, rfl, iteF ?_⟩
          exact k a H1 rfl G1 f1
        | some wd =>
          rw [hg] at k
          refine ⟨_, rfl, _, rfl, iteT ?_⟩
          refine ⟨_, rfl, a.p, a.dx, _, rfl, G1.ob, rfl, _, rfl, a, g, wd, rfl, G1, hl2, fun a' H2 ea G2 f2 => ?_⟩
          exact k a' H2 ea G2 (f1.trans f2)
      | some m =>
        rw [hm] at k
        have k : Post K T.C a H (if given g true = some m then g else giveUp g c) Q := k
        refine ⟨_, rfl, iteF ?_⟩
        refine ⟨_, rfl, a.p, a.dx, _, rfl, G.ob, rfl, a, g, true, rfl, G, Nat.le_trans hl.n (by decide), fun H1 G1 f1 => ?_⟩
        refine ⟨_, rfl, a.p, T.C, a.dx, _, _, rfl, G1.ob, T.cl, T.n_mark, rfl, scal_oV _ _, _, rfl, ?_⟩
        by_cases hg : given g true = some m
        · rw [if_pos hg] at k
          have e : oV (given g true) = oV g.mark := by rw [hg, hm]
          rw [decide_eq_true e]
          exact iteF (k a H1 rfl G1 f1)
        · rw [if_neg hg] at k
          have e : ¬ oV (given g true) = oV g.mark := fun z => hg ((oV_inj.mp z).trans hm)
          rw [decide_eq_false e]
          refine iteT ?_
          refine ⟨_, rfl, a.p, a.dx, _, rfl, G1.ob, rfl, _, rfl, ?_⟩
          exact hU a g c H1 _ m G1 hl hp ho hm fun a' H2 ea G2 f2 => k a' H2 ea G2 (f1.trans f2)
def spLookP (K : PySem.W.Frag) (C : Addr) (pre : G → Prop) : Sp := fun vs H Q E => ∃ (a : GA) (g : G) (c : Option Str), vs = [.ref a.p, oV c] ∧ GuestAt K C H a g ∧ Fit 6000 60000 30000 g ∧ pre g ∧ Post K C a H (look g c) Q
theorem ok_look0 (T : Tx K mg) : FnOk P w K mg base CX0 3 T.d_look.f T.d_look.fd ["self", "house"] (spLookP K T.C pre0) :=
  ok_look_of T (Nat.le_refl 2) fnFalse pre0 fun a g c H Q m G hl hp ho hm k => by
    rcases hp with e | e
    · rw [ho] at e
      cases e
    · rw [hm] at e
      cases e
def spCloseP (K : PySem.W.Frag) (C : Addr) : Sp := fun vs H Q _ => ∃ (a : GA) (g : G), vs = [.ref a.p] ∧ GuestAt K C H a g ∧ Fit 6000 60000 30000 g ∧ g.mark = none ∧ Post K C a H (close g) Q
theorem sq_kt {K : PySem.W.Frag} {mg : Str → Option Value} {x : Str} {xs : List Str} (k : Kt K mg x xs) (H : Hp) : TupS K H k.a xs := .inr k.q
theorem look_close {g : G} (hm : g.mark = none) : look { g with opened := false, source := none } none = lookN { g with opened := false, source := none } := by
  unfold look
  rw [if_neg (by exact Bool.false_ne_true)]
  show (match g.mark with | none => _ | some m => _) = _
  rw [hm]
theorem ok_close0 (T : Tx K mg) : FnOk P w K mg base CX0 4 T.d_close.f T.d_close.fd ["self"] (spCloseP K T.C) := by
  have GT : FnOk P w K mg base CX0 1 T.d_tell.f T.d_tell.fd ["self", "house", "letter"] (spTell K T.C) := ok_tell T
  have GL : FnOk P w K mg base CX0 3 T.d_look.f T.d_look.fd ["self", "house"] (spLookP K T.C pre0) := ok_look0 T
  refine T.d_close.F.ok sc_close (fun vs H Q E h => ?_) (fun cdv A outer s H vs Q E hr h => ?_)
  · obtain ⟨a, g, rfl, _⟩ := h
    rfl
  · obtain ⟨a, g, rfl, G, hl, hmk, k⟩ := h
    have nd := sc_close.nd
    have hr1 : Room 1 _ := hr.mono (by decide)
    refine ⟨_, pss_cons (ps_fld (pv 0) pe_bl rfl) (pss_cons (ps_fld (pv 0) pe_non rfl)
      (pss_cons (ps_expr (pe_meth (pv 0) T.cl T.m_look GL hr T.d_look.b .nil pass0 (pa_cons pe_non pa_nil)))
      (pss_cons (ps_for PassesOwn.never rfl (pi_list (pe_callB cr_sortedSA (by rfl) T.b_sorted (by decide +kernel) (pa_cons (pe_fld (pv 0) rfl) pa_nil))) (pg_name (i := 1) nd rfl (.inl rfl))
        (pss_one (ps_expr (pe_meth (pv 0) T.cl T.m_tell GT hr1 T.d_tell.b .nil pass0 (pa_cons (pv 1) (pa_cons (pe_glob (v := .ref T.kHEARD.a) (by rfl) T.kHEARD.g rfl) pa_nil))))))
      (pss_cons (ps_fld (pv 0) (pe_lst pa_nil) rfl)
      (pss_one (ps_if (pt_cmpR op_ne (pe_fld (pv 0) rfl) (pe_gs T.gIN) (nomark _))
        (pss_cons (ps_for PassesOwn.never rfl (pi_list (pe_callB cr_sortedSA (by rfl) T.b_sorted (by decide +kernel) (pa_cons (pe_fld (pv 0) rfl) pa_nil))) (pg_name (i := 1) nd rfl (.inl rfl))
          (pss_one (ps_expr (pe_meth (pv 0) T.cl T.m_tell GT hr1 T.d_tell.b .nil pass0 (pa_cons (pv 1) (pa_cons (pe_glob (v := .ref T.kBACK.a) (by rfl) T.kBACK.g rfl) pa_nil))))))
        (pss_one (ps_fld (pv 0) (pe_lst pa_nil) rfl))) pss_nil)))))), ?_⟩
    refine rd_stoC ?_
    refine G.sto T.cl T.n_opened { g with opened := false } fun H1 G1 f1 => ?_
    refine rd_stoC ?_
    refine G1.sto (y := .non) T.cl T.n_source { g with opened := false, source := none } fun H2 G2 f2 => ?_
    have hl2 : Fit 6000 60000 30000 { g with opened := false, source := none } := { hl with }
    refine ⟨_, rfl, a.p, a.dx, _, rfl, G2.ob, rfl, a, _, none, rfl, G2, hl2, .inr hmk, fun b H3 eb G3 f3 => ?_⟩
    rw [look_close hmk] at G3
    have fl := fit_lookN hl2
    unfold close at k
    generalize lookN { g with opened := false, source := none } = g3 at G3 fl k
    have f03 := (f1.trans f2).trans f3
    rw [← eb]
    refine ⟨_, rfl, b.p, T.C, b.dx, _, _, rfl, G3.ob, T.cl, T.n_debts, rfl, b.debts, g3.debts, rfl, SqL.of G3.db, fun ys p perm sorted hp => ?_⟩
    have ey : ys = srt g3.debts := srt_of perm sorted
    subst ey
    have G4 := G3.upd_new (o := .lst ((srt g3.debts).map V.str)) hp
    have f04 := f03.trans (Frm.new (F := b.ft) (o' := .lst ((srt g3.debts).map V.str)) hp)
    have pf : p ∉ b.ft := G3.notNew hp
    have hdl : (srt g3.debts).length ≤ 6000 := by
      rw [srt_len]
      exact fl.d
    refine ⟨p, rfl, ⟨_, SqL.of upd_same⟩, for_list (K := K) (a := p) (xs := (srt g3.debts).map V.str) (fun i σ H' => ∃ v1, σ = [some (.ref b.p), v1] ∧ GuestAt K T.C H' b (tellAll g3 ((srt g3.debts).take i) lHeard) ∧ Frm a.ft H b.ft H' ∧ H' p = some (.lst ((srt g3.debts).map V.str)))
      ⟨none, rfl, (by rw [List.take_zero, tellAll_nil]; exact G4), f04, upd_same⟩ (fun i σ H' _ ⟨_, _, _, _, e⟩ => SqL.of e) ?_ ?_⟩
    · rintro i y σ H' hi ⟨v1, rfl, G', f', e'⟩
      rw [List.getElem?_map] at hi
      obtain ⟨h, hh, rfl⟩ := Option.map_eq_some_iff.mp hi
      refine ⟨_, rfl, b.p, b.dx, _, rfl, G'.ob, rfl, _, rfl, b, _, h, T.kHEARD.a, lHeard, rfl, G', sq_kt T.kHEARD _, tellAll_go (Nat.le_trans fl.go (by decide)) hdl, fun H7 G7 f7 => ?_⟩
      rw [tellAll_step hh] at G7
      exact ⟨_, rfl, G7, f'.trans f7, f7.keep _ _ e' pf⟩
    · rintro σ H5 ⟨v1, rfl, G5, f5, e5⟩
      rw [List.length_map, List.take_length] at G5
      refine ⟨Nat.zero_le _, fun q hq => ?_⟩
      refine G5.sto_debts (l := []) hq T.cl T.n_debts fun H6 G6 f6 => ?_
      have f06 := f5.trans f6
      unfold close1 at k
      have fl6 : Fit 6000 60001 42000 { tellAll g3 (srt g3.debts) lHeard with debts := [] } :=
        { fit_tellAll (l := lHeard) fl hdl with d := Nat.zero_le _ }
      generalize ({ tellAll g3 (srt g3.debts) lHeard with debts := [] } : Ha.G) = g6 at G6 fl6 k
      generalize ec : ({ b with debts := q } : GA) = c at G6 f6 f06
      have ep : c.p = a.p := by
        rw [← ec]
        exact eb
      have ep2 : b.p = c.p := by rw [← ec]
      rw [ep2]
      refine ⟨_, rfl, c.p, T.C, c.dx, _, _, rfl, G6.ob, T.cl, T.n_mark, rfl, scal_oV g6.mark (some "in"), _, rfl, ?_⟩
      unfold close2 at k
      by_cases hin : g6.mark = some wIn
      · rw [if_neg (fun z => z hin)] at k
        have e : oV g6.mark = V.str "in" := by rw [hin]; rfl
        rw [decide_eq_true e]
        exact iteF (k c H6 ep G6 f06)
      · rw [if_pos hin] at k
        have e : ¬ oV g6.mark = V.str "in" := fun z => hin (oV_inj.mp (show oV g6.mark = oV (some wIn) from z))
        rw [decide_eq_false e]
        refine iteT ?_
        refine ⟨_, rfl, c.p, T.C, c.dx, _, _, rfl, G6.ob, T.cl, T.n_seats, rfl, c.seats, g6.seats, rfl, SqL.of G6.st, fun ys p2 perm2 sorted2 hp2 => ?_⟩
        have ey2 : ys = srt g6.seats := srt_of perm2 sorted2
        subst ey2
        have G8 := G6.upd_new (o := .lst ((srt g6.seats).map V.str)) hp2
        have f08 := f06.trans (Frm.new (F := c.ft) (o' := .lst ((srt g6.seats).map V.str)) hp2)
        have pf2 : p2 ∉ c.ft := G6.notNew hp2
        have hsl : (srt g6.seats).length ≤ 6000 := by
          rw [srt_len]
          exact fl6.s
        refine ⟨p2, rfl, ⟨_, SqL.of upd_same⟩, for_list (K := K) (a := p2) (xs := (srt g6.seats).map V.str) (fun i σ H' => ∃ v1, σ = [some (.ref c.p), v1] ∧ GuestAt K T.C H' c (tellAll g6 ((srt g6.seats).take i) lBack) ∧ Frm a.ft H c.ft H' ∧ H' p2 = some (.lst ((srt g6.seats).map V.str)))
          ⟨_, rfl, (by rw [List.take_zero, tellAll_nil]; exact G8), f08, upd_same⟩ (fun i σ H' _ ⟨_, _, _, _, e⟩ => SqL.of e) ?_ ?_⟩
        · rintro i y σ H' hi ⟨v1, rfl, G', f', e'⟩
          rw [List.getElem?_map] at hi
          obtain ⟨h, hh, rfl⟩ := Option.map_eq_some_iff.mp hi
          refine ⟨_, rfl, c.p, c.dx, _, rfl, G'.ob, rfl, _, rfl, c, _, h, T.kBACK.a, lBack, rfl, G', sq_kt T.kBACK _, tellAll_go (Nat.le_trans fl6.go (by decide)) hsl, fun H7 G7 f7 => ?_⟩
          rw [tellAll_step hh] at G7
          exact ⟨_, rfl, G7, f'.trans f7, f7.keep _ _ e' pf2⟩
        · rintro σ H9 ⟨v1, rfl, G9, f9, e9⟩
          rw [List.length_map, List.take_length] at G9
          refine ⟨Nat.zero_le _, fun q2 hq2 => ?_⟩
          refine G9.sto_seats (l := []) hq2 T.cl T.n_seats fun H10 G10 f10 => ?_
          exact k _ H10 (by exact ep) G10 (f9.trans f10)
end
end Ha

/-! The guest's defs, fourth part: give_up, look, answered, wish, unwish. -/
namespace Ha
open PySem PySem.Spec PyProof.Rows L2
section
variable {P : Program} {w : World} {K : PySem.W.Frag} {mg : Str → Option Value} {base : Heap}
def spGiveUpP (K : PySem.W.Frag) (C : Addr) : Sp := fun vs H Q _ => ∃ (a : GA) (g : G) (c : Option Str), vs = [.ref a.p, oV c] ∧ GuestAt K C H a g ∧ Fit 6000 50000 20000 g ∧ Post K C a H (giveUp g c) Q
/-- an empty list and a list of texts, compared -/
theorem eqv_nil (l : List Str) : PyData.eqv (.list (l.map PyData.str)) (.list []) = decide (l = []) := by
  cases l with
  | nil => simp [PyData.eqv, PyData.eqvAll]
  | cons x r => simp [PyData.eqv, PyData.eqvAll]
theorem shaped_nil : SeqAt.shaped (.list []) = true := by decide +kernel
theorem nm_ok {x : Str} (h : Nm x) : PyData.canLay0 (.str x) = true := by
  simp only [PyData.canLay0]
  show x.cps.all (· < 0x110000) = true
  rw [← Array.all_toList, List.all_eq_true]
  intro c hc
  have := h.2.2 c hc
  exact decide_eq_true (by omega)
theorem canLayAll_names : ∀ l : List Str, (∀ x ∈ l, Nm x) → PyData.canLayAll0 (l.map PyData.str) = true
  | [], _ => by simp [PyData.canLayAll0]
  | x :: r, h => by
    rw [List.map_cons]
    simp only [PyData.canLayAll0]
    rw [nm_ok (h x List.mem_cons_self), canLayAll_names r fun y hy => h y (List.mem_cons_of_mem _ hy)]
    rfl
theorem depthAll_names : ∀ l : List Str, PyData.depthAll (l.map PyData.str) = 0
  | [] => by simp [PyData.depthAll]
  | x :: r => by
    rw [List.map_cons]
    simp only [PyData.depthAll, PyData.depth]
    rw [depthAll_names r]
    rfl
theorem shaped_of {d : PyData} (h1 : d.canLay0 = true) (h2 : d.depth ≤ 64) : SeqAt.shaped d = true := by
  show (d.canLay0 && decide (d.depth ≤ 64)) = true
  rw [h1, decide_eq_true h2]
  rfl
theorem shaped_names {l : List Str} (h : ∀ x ∈ l, Nm x) : SeqAt.shaped (.list (l.map PyData.str)) = true := by
  refine shaped_of (by simp only [PyData.canLay0]; exact canLayAll_names l h) ?_
  simp only [PyData.depth]
  rw [depthAll_names l]
  decide
theorem fn_giveUp (T : Tx K mg) : FnOk P w K mg base CX0 5 T.d_give_up.f T.d_give_up.fd ["self", "house"] (fun vs H Q E => ∃ (a : GA) (g : G) (c : Option Str), vs = [.ref a.p, oV c] ∧ GuestAt K T.C H a g ∧ Fit 6000 50000 20000 g ∧ (∀ x ∈ g.knows, Nm x) ∧ Post K T.C a H (giveUp g c) Q) := by
  have GT : FnOk P w K mg base CX0 1 T.d_tell.f T.d_tell.fd ["self", "house", "letter"] (spTell K T.C) := ok_tell T
  have GC : FnOk P w K mg base CX0 4 T.d_close.f T.d_close.fd ["self"] (spCloseP K T.C) := ok_close0 T
  refine T.d_give_up.F.ok sc_give_up (fun vs H Q E h => ?_) (fun cdv A outer s H vs Q E hr h => ?_)
  · obtain ⟨a, g, c, rfl, _⟩ := h
    rfl
  · obtain ⟨a, g, c, rfl, G, hl, hnm, k⟩ := h
    have nd := sc_give_up.nd
    have hr1 : Room 1 _ := hr.mono (by decide)
    refine ⟨_, pss_cons (ps_fld (pv 0) pe_non rfl) (pss_cons (ps_fld (pv 0) pe_bl rfl) (pss_cons (ps_fld (pv 0) (pv 1) rfl)
      (pss_cons (ps_expr (pe_bm PySem.F.plainAttrs_list PySem.F.slot_list_append PySem.F.type_list_append mt_append (pe_fld (pv 0) rfl) (pa_cons (pe_tup (pa_cons pe_non (pa_cons (pv 1) pa_nil))) pa_nil)))
      (pss_cons (ps_fld (pv 0) (pe_fld (pv 0) rfl) rfl) (pss_cons (ps_fld (pv 0) (pe_lst pa_nil) rfl)
      (pss_cons (ps_for PassesOwn.never rfl (pi_list (pe_fld (pv 0) rfl)) (pg_name (i := 2) nd rfl (.inl rfl)) (pss_one (ps_expr (pe_meth (pv 0) T.cl T.m_tell GT hr1 T.d_tell.b .nil pass0 (pa_cons (pv 2) (pa_cons (pe_glob (v := .ref T.kOPEN.a) (by rfl) T.kOPEN.g rfl) pa_nil))))))
      (pss_one (ps_if (pt_cmpR (op_eqD hr.units) (pe_fld (pv 0) rfl) (pe_lst pa_nil) (nomark _)) (pss_one (ps_expr (pe_meth0 (pv 0) T.cl T.m_close GC hr T.d_close.b .nil pass0))) pss_nil)))))))), ?_⟩
    refine rd_stoC ?_
    refine G.sto (y := .non) T.cl T.n_mark { g with mark := none } fun H1 G1 f1 => ?_
    refine rd_stoC ?_
    refine G1.sto T.cl T.n_opened { g with mark := none, opened := true } fun H2 G2 f2 => ?_
    refine ⟨_, rfl, ?_⟩
    refine G2.sto T.cl T.n_source { g with mark := none, opened := true, source := c } fun H3 G3 f3 => ?_
    have f03 := (f1.trans f2).trans f3
    refine ⟨_, rfl, a.p, T.C, a.dx, _, _, rfl, G3.ob, T.cl, T.n_past, rfl, ?_⟩
    obtain ⟨xs, hx, hp⟩ := id G3.pa
    refine ⟨.inl ⟨rfl, _, SqL.of hx⟩, _, rfl, (by show 2 ≤ sizeLine; decide), fun t ht => ?_⟩
    have G4 := G3.upd_new (o := .tup [.non, oV c]) ht
    have f4 : Frm a.ft H3 a.ft (upd H3 t (.tup [.non, oV c])) := Frm.new ht
    refine ⟨a.past, xs, _, rfl, rfl, ?_, sz5 (by rw [paired_len hp]; have := hl.pa; exact Nat.le_trans this (by decide)), ?_⟩
    · rw [upd_ne (ne_of_none hx ht)]
      exact hx
    · obtain ⟨G5, f5⟩ := G4.in_past (l := g.past ++ [(none, c)]) (xs := xs ++ [.ref t]) ((Paired.mapP hp fun _ _ q => q.stay f4.tup).snoc ⟨t, rfl, upd_same⟩)
      have f05 := (f03.trans f4).trans f5
      generalize upd (upd H3 t (HO.tup [V.non, oV c])) a.past (HO.lst (xs ++ [V.ref t])) = H5 at G5 f5 f05 ⊢
      -- self.waits = self.knows; self.knows = []
      refine ⟨_, rfl, a.p, T.C, a.dx, _, _, rfl, G5.ob, T.cl, T.n_knows, rfl, _, rfl, a.p, T.C, a.dx, _, rfl, G5.ob, T.cl, T.n_waits, (by show 14 < 1000; decide), Nat.zero_le _, fun q hq => ?_⟩
      have hq5 : H5 q = none := by
        have ne : q ≠ a.p := fun z => by
          rw [z, upd_same] at hq
          cases hq
        rw [upd_ne ne] at hq
        exact hq
      have npq : a.p ≠ q := fun z => by
        rw [← z, G5.ob] at hq5
        cases hq5
      obtain ⟨G6, f6⟩ := G5.sto_swap hq5
      refine ⟨_, rfl, a.p, T.C, a.dx, _, rfl, (by rw [upd_ne npq]; exact upd_same), T.cl, T.n_knows, (by show 14 < 1000; decide), ?_⟩
      have f06 := f05.trans f6
      generalize hH6 : upd (upd (upd H5 a.p (HO.ins T.C a.dx (putF "waits" (V.ref a.knows) (gF a { g with mark := none, opened := true, source := c, past := g.past ++ [(none, c)] })))) q (HO.lst [])) a.p (HO.ins T.C a.dx (putF "knows" (V.ref q) (putF "waits" (V.ref a.knows) (gF a { g with mark := none, opened := true, source := c, past := g.past ++ [(none, c)] })))) = H6 at G6 f6 f06 ⊢
      generalize eb : ({ a with knows := q, waits := a.knows } : GA) = b at G6 f6 f06
      have ep : b.p = a.p := by rw [← eb]
      have go : ∀ i, (tellAll { g with mark := none, opened := true, source := c, past := g.past ++ [(none, c)], waits := g.knows, knows := [] } (g.knows.take i) lOpen).going.length ≤ 100000 := fun i => tellAll_go (Nat.le_trans hl.go (by decide)) hl.k
      rw [← ep]
      refine ⟨_, rfl, b.p, T.C, b.dx, _, _, rfl, G6.ob, T.cl, T.n_waits, rfl, b.waits, rfl, ⟨_, SqL.of G6.wt⟩, for_list (K := K) (a := b.waits) (xs := g.knows.map V.str) (fun i σ H' => ∃ v2, σ = [some (.ref b.p), some (oV c), v2] ∧
        GuestAt K T.C H' b (tellAll { g with mark := none, opened := true, source := c, past := g.past ++ [(none, c)], waits := g.knows, knows := [] } (g.knows.take i) lOpen) ∧ Frm a.ft H b.ft H')
        ⟨none, rfl, (by rw [List.take_zero, tellAll_nil]; exact G6), f06⟩ (fun i σ H' _ ⟨_, _, e, _⟩ => SqL.of e.wt) ?_ ?_⟩
      · rintro i y σ H' hi ⟨v2, rfl, G', f'⟩
        rw [List.getElem?_map] at hi
        obtain ⟨h, hh, rfl⟩ := Option.map_eq_some_iff.mp hi
        refine ⟨_, rfl, b.p, b.dx, _, rfl, G'.ob, rfl, _, rfl, b, _, h, T.kOPEN.a, lOpen, rfl, G', sq_kt T.kOPEN _, go i, fun H7 G7 f7 => ?_⟩
        rw [tellAll_step hh] at G7
        exact ⟨_, rfl, G7, f'.trans f7⟩
      · rintro σ H7 ⟨v2, rfl, G7, f7⟩
        rw [List.length_map, List.take_length] at G7
        have G7' : GuestAt K T.C H7 b (giveUp1 g c) := G7
        have fl := fit_giveUp1 (c := c) hl
        unfold giveUp at k
        refine ⟨_, rfl, b.p, T.C, b.dx, _, _, rfl, G7'.ob, T.cl, T.n_waits, rfl, Nat.zero_le _, fun q2 hq2 => ?_⟩
        have G8 := G7'.upd_new (o := .lst []) hq2
        refine ⟨_, _, .lst (SqL.of (G8.wt)) (dpAll_strs _), .lst (SqL.of upd_same) .nil, shaped_names (l := g.knows) hnm, shaped_nil, _, rfl, ?_⟩
        have f8 := f7.trans (Frm.new (F := b.ft) (o' := .lst []) hq2)
        show (if PyData.eqv (.list (g.knows.map PyData.str)) (.list []) = true then _ else _)
        rw [eqv_nil]
        by_cases hk : g.knows = []
        · rw [if_pos hk] at k
          rw [decide_eq_true hk]
          refine iteT ?_
          refine ⟨_, rfl, b.p, b.dx, _, rfl, G8.ob, rfl, b, _, rfl, G8, fl.mono (Nat.le_refl _) (by decide) (by decide), rfl, fun b' H9 eb' G9 f9 => ?_⟩
          exact k b' H9 (eb'.trans ep) G9 (f8.trans f9)
        · rw [if_neg hk] at k
          rw [decide_eq_false hk]
          exact iteF (k b _ ep G8 f8)
def preK (g : G) : Prop := (∀ x ∈ g.knows, Nm x) ∧ g.past.length ≤ 50000 ∧ g.going.length ≤ 20000
theorem fn_look (T : Tx K mg) : FnOk P w K mg base CX0 6 T.d_look.f T.d_look.fd ["self", "house"] (spLookP K T.C preK) :=
  ok_look_of T (by decide) (fn_giveUp T) preK fun a g c H Q m G hl hp ho hm k => ⟨a, g, c, rfl, G, { hl with pa := hp.2.1, go := hp.2.2 }, hp.1, k⟩
end
end Ha

/-! The guest's defs, fifth part: answered, wish, unwish, is_name. -/
namespace Ha
open PySem PySem.Spec PyProof.Rows L2
/-- [one for one in l if one != h] -/
theorem lcFilter {K : PySem.W.Frag} {a D : Addr} {l : List Str} {h : Str} {σ : L2.St} {H1 : Hp} {Qd : Hp → Prop} {j k : Nat} (hs : SqL K H1 a (l.map V.str)) (hD : H1 D = none) (hl : l.length ≤ 100000) (hd : Qd (upd H1 D (.lst ((l.filter fun x => decide (x ≠ h)).map V.str))))
    (h1 : ∀ x : V, wipe ((wipe σ [j]).set j (some x)) [j] = wipe σ [j] := by intro; rfl) (h2 : ∀ x : V, ((wipe σ [j]).set j (some x))[j]? = some (some x) := by intro; rfl) (h3 : ∀ x : V, ((wipe σ [j]).set j (some x))[k]? = some (some (.str h)) := by intro; rfl) :
    ∃ W : Nat → Nat → Hp → Prop, (∃ m, W 0 m (upd H1 D (.lst []))) ∧ ∀ i m H, W i m H →
      ((Itl K a).stop i H ∧ Qd H) ∨ ((Itl K a).go i H ∧ ∃ Nx : Hp → Prop, (∀ H', Nx H' → ∃ m', m' < m ∧ W (i + 1) m' H') ∧ ∀ x H', (Itl K a).yld i H x H' → gName j x (wipe σ [j]) H' fun σ2 H2 => wipe σ2 [j] = wipe σ [j] ∧ tTest (tOp rNe (tVar j) (tVar k)) σ2 H2 fun b H3 =>
        if b = true then tVar j σ2 H3 fun y H4 => ∃ acc, H4 D = some (.lst acc) ∧ acc.length < sizeLine ∧ Nx (upd H4 D (.lst (acc ++ [y]))) else Nx H3) := by
  have naD : ∀ (o : HO) b u, H1 b = some u → (upd H1 D o) b = some u := fun o b u e => by
    rw [upd_ne (ne_of_none e hD)]
    exact e
  have sq : ∀ o, SqL K (upd H1 D o) a (l.map V.str) := fun o => by
    rcases hs with (e | ⟨z, e⟩) | e
    · exact .inl (.inl (naD o _ _ e))
    · exact .inl (.inr ⟨z, naD o _ _ e⟩)
    · exact .inr e
  refine lc_list (K := K) (a := a) (xs := l.map V.str) (fun i H' => H' = upd H1 D (.lst (((l.take i).filter fun x => decide (x ≠ h)).map V.str))) (by rw [List.take_zero]; rfl) (fun i H' _ e => by rw [e]; exact sq _) ?_ ?_
  · intro i x H' hi e
    rw [List.getElem?_map] at hi
    obtain ⟨y, hy, rfl⟩ := Option.map_eq_some_iff.mp hi
    have hil : i < l.length := (List.getElem?_eq_some_iff.mp hy).1
    refine ⟨h1 _, _, h2 _, _, h3 _, rfl, _, rfl, ?_⟩
    have tk : l.take (i + 1) = l.take i ++ [y] := by
      rw [List.take_add_one, hy]
      rfl
    by_cases c : y = h
    · have e1 : (V.str y) = V.str h := by rw [c]
      rw [decide_eq_true e1]
      refine iteF ?_
      show H' = _
      rw [e, tk, List.filter_append]
      have : [y].filter (fun x => decide (x ≠ h)) = [] := by simp [c]
      rw [this, List.append_nil]
    · have e1 : ¬ (V.str y) = V.str h := fun z => c (V.str.inj z)
      rw [decide_eq_false e1]
      refine iteT ?_
      refine ⟨_, h2 _, _, (by rw [e, upd_same]), ?_, ?_⟩
      · rw [List.length_map]
        refine sz5 (Nat.le_trans (List.length_filter_le _ _) ?_)
        rw [List.length_take]
        omega
      · show _ = _
        rw [e, upd_upd, tk, List.filter_append]
        have : [y].filter (fun x => decide (x ≠ h)) = [y] := by simp [c]
        rw [this, List.map_append]
        rfl
  · intro H' e
    rw [List.length_map, List.take_length] at e
    rw [e]
    exact hd
section
variable {P : Program} {w : World} {K : PySem.W.Frag} {mg : Str → Option Value} {base : Heap}
def spAnswered (K : PySem.W.Frag) (C : Addr) : Sp := fun vs H Q _ => ∃ (a : GA) (g : G) (h : Str), vs = [.ref a.p, .str h] ∧ GuestAt K C H a g ∧ Fit 6000 50000 25000 g ∧ g.mark = none ∧ (∀ x ∈ g.waits, Nm x) ∧ Post K C a H (answered g h) Q
theorem fn_answered (T : Tx K mg) : FnOk P w K mg base CX0 5 T.d_answered.f T.d_answered.fd ["self", "house"] (spAnswered K T.C) := by
  have GC : FnOk P w K mg base CX0 4 T.d_close.f T.d_close.fd ["self"] (spCloseP K T.C) := ok_close0 T
  refine T.d_answered.F.ok sc_answered (fun vs H Q E h => ?_) (fun cdv A outer s H vs Q E hr h => ?_)
  · obtain ⟨a, g, h, rfl, _⟩ := h
    rfl
  · obtain ⟨a, g, h, rfl, G, hl, hmk, hnm, k⟩ := h
    have nd := sc_answered.nd
    refine ⟨_, pss_cons (ps_fld (pv 0) (pe_lc (own := [("one", 2)]) (g := gName 2) rfl nd (pi_list (pe_fld (pv 0) rfl)) (blkOk_by (own := [("one", 2)]) (N := n_answered) (sc := defScope s_answered) (by decide +kernel))
        (fun _ _ _ _ _ => pg_name (i := 2) nd rfl (Or.inl rfl)) (fun _ _ _ _ _ => pts_one (pt_cmpR op_ne (pv 2) (pv 1) (nomark _))) (fun _ _ _ _ _ => pv 2)) rfl)
      (pss_one (ps_if (pt_cmpR (op_eqD hr.units) (pe_fld (pv 0) rfl) (pe_lst pa_nil) (nomark _)) (pss_one (ps_expr (pe_meth0 (pv 0) T.cl T.m_close GC hr T.d_close.b .nil pass0))) pss_nil)), ?_⟩
    refine ⟨_, rfl, a.p, T.C, a.dx, _, _, rfl, G.ob, T.cl, T.n_waits, rfl, a.waits, rfl, ⟨_, SqL.of G.wt⟩, fun q hq => ?_⟩
    refine lcFilter (h := h) (SqL.of G.wt) hq (Nat.le_trans hl.w (by decide)) ?_
    refine G.sto_waits hq T.cl T.n_waits fun H1 G1 f1 => ?_
    generalize eb : ({ a with waits := q } : GA) = b at G1 f1
    have ep : b.p = a.p := by rw [← eb]
    unfold answered at k
    have hl1 : Fit 6000 50000 25000 { g with waits := g.waits.filter fun x => decide (x ≠ h) } := { hl with w := Nat.le_trans (List.length_filter_le _ _) hl.w }
    rw [← ep]
    refine ⟨_, rfl, b.p, T.C, b.dx, _, _, rfl, G1.ob, T.cl, T.n_waits, rfl, Nat.zero_le _, fun q2 hq2 => ?_⟩
    have G2 := G1.upd_new (o := .lst []) hq2
    have f2 := f1.trans (Frm.new (F := b.ft) (o' := .lst []) hq2)
    refine ⟨_, _, .lst (SqL.of (G2.wt)) (dpAll_strs _), .lst (SqL.of upd_same) .nil, shaped_names (fun x hx => hnm x (List.mem_filter.mp hx).1), shaped_nil, _, rfl, ?_⟩
    rw [eqv_nil]
    by_cases hk : (g.waits.filter fun x => decide (x ≠ h)) = []
    · rw [if_pos hk] at k
      rw [decide_eq_true hk]
      refine iteT ?_
      refine ⟨_, rfl, b.p, b.dx, _, rfl, G2.ob, rfl, b, _, rfl, G2, hl1.mono (Nat.le_refl _) (by decide) (by decide), hmk, fun b' H9 eb' G9 f9 => ?_⟩
      exact k b' H9 (eb'.trans ep) G9 (f2.trans f9)
    · rw [if_neg hk] at k
      rw [decide_eq_false hk]
      exact iteF (k b _ ep G2 f2)
/-- a deed's promise: refused, or the letters that go, in a list of the asker's own -/
def Told (K : PySem.W.Frag) (C : Addr) (a : GA) (H : Hp) (g' : G) (Q : VK) : Prop := ∀ a' H' r, a'.p = a.p → GuestAt K C H' a' (gone g') → Frm a.ft H a'.ft H' → r ∉ a'.ft → (r ∈ a.ft ∨ H r = none) → LstR (goR K) H' r g'.going → Q (.ref r) H'
def preS (g : G) : Prop := Ok g ∧ ∃ t, t ≤ 1500 ∧ Fit t 10000 0 g
/-- what a deed asks ahead, and what it promises; X the refusal's class -/
def Deed (K : PySem.W.Frag) (C X : Addr) (a : GA) (g : G) (H : Hp) (o : Option G) (Q : VK) (E : XK) : Prop := GuestAt K C H a g ∧ preS g ∧ (o = none → ∀ H', Same H H' → E (.ref X) none H') ∧ ∀ g', o = some g' → Told K C a H g' Q
def spWish (K : PySem.W.Frag) (C X : Addr) : Sp := fun vs H Q E => ∃ (a : GA) (g : G), vs = [.ref a.p] ∧ Deed K C X a g H (stepR g .wish) Q E
def spUnwish (K : PySem.W.Frag) (C X : Addr) : Sp := fun vs H Q E => ∃ (a : GA) (g : G), vs = [.ref a.p] ∧ Deed K C X a g H (stepR g .unwish) Q E
theorem er_raises {K : PySem.W.Frag} {mg : Str → Option Value} {x : Str} (e : Er K mg x) {X : Cx} (hK : X.K = K) : Raises X (.ref e.C) := by
  subst hK
  exact raises_own e.b e.t
theorem lim_look {t : Nat} {g : G} (ht : t ≤ 1500) (f : Fit t 10000 0 g) : Fit 6000 60000 30000 g := f.mono (by omega) (by decide) (by decide)
/-- the letters are handed out -/
theorem told_of {K : PySem.W.Frag} {C : Addr} {a b : GA} {H H1 : Hp} {g' : G} {Q : VK} (k : Told K C a H g' Q) (ep : b.p = a.p) (G : GuestAt K C H1 b g') (f : Frm a.ft H b.ft H1) :
    ∀ (a' : GA) (H' : Hp), a'.p = b.p → GuestAt K C H' a' (gone g') → Frm b.ft H1 a'.ft H' → b.going ∉ a'.ft → LstR (goR K) H' b.going g'.going → Q (.ref b.going) H' := fun a' H' e G' f' hn hg =>
  k a' H' b.going (e.trans ep) G' (f.trans f') hn (f.sub _ (by simp [GA.ft])) hg
theorem fn_wish (T : Tx K mg) : FnOk P w K mg base (L2.CX P w) 7 T.d_wish.f T.d_wish.fd ["self"] (spWish K T.C T.eTwice.C) := by
  have GL : FnOk P w K mg base CX0 6 T.d_look.f T.d_look.fd ["self", "house"] (spLookP K T.C preK) := fn_look T
  have GG : FnOk P w K mg base CX0 1 T.d_gone.f T.d_gone.fd ["self"] (spGone K T.C) := ok_gone T
  refine T.d_wish.F.okX sc_wish (fun vs H Q E h => ?_) (fun cdv A outer s H vs Q E hr h => ?_)
  · obtain ⟨a, g, rfl, _⟩ := h
    rfl
  · obtain ⟨a, g, rfl, G, ⟨ok, t, ht, hl⟩, kE, k⟩ := h
    have nd := sc_wish.nd
    have hr1 : Room 1 _ := hr.mono (by decide)
    refine ⟨_, pss_cons (ps_if (pt_val (pe_fld (pv 0) rfl)) (pss_one (ps_raise rfl (takes_of rfl rfl rfl rfl) (pmk_own PySem.F.excBase_ValueError T.eTwice.x T.eTwice.g T.eTwice.k (raises_own T.eTwice.b T.eTwice.t) rfl))) pss_nil)
      (pss_cons (ps_fld (pv 0) pe_bl rfl)
      (pss_cons (ps_expr (pe_meth (pv 0) T.cl T.m_look GL hr T.d_look.b .nil pass0 (pa_cons pe_non pa_nil)))
      (pss_one (ps_ret (pe_meth0 (pv 0) T.cl T.m_gone GG hr1 T.d_gone.b .nil pass0))))), ?_⟩
    refine ⟨_, rfl, a.p, T.C, a.dx, _, _, rfl, G.ob, T.cl, T.n_wished, rfl, _, rfl, ?_⟩
    have es : stepR g .wish = if g.wished = true then none else some (look { g with wished := true } none) := rfl
    cases hw : g.wished with
    | true =>
      refine iteT ?_
      exact kE (by rw [es, if_pos hw]) H (Same.refl H)
    | false =>
      refine iteF ?_
      have k' := k _ (by rw [es, if_neg (by rw [hw]; exact Bool.false_ne_true)])
      refine rd_stoC ?_
      refine G.sto T.cl T.n_wished { g with wished := true } fun H1 G1 f1 => ?_
      have hl1 : Fit t 10000 0 { g with wished := true } := { hl with }
      refine ⟨_, rfl, a.p, a.dx, _, rfl, G1.ob, rfl, a, _, none, rfl, G1, lim_look ht hl1, ⟨ok.nK, Nat.le_trans hl.pa (by decide), Nat.le_trans hl.go (by decide)⟩, fun b H2 eb G2 f2 => ?_⟩
      rw [← eb]
      refine ⟨_, rfl, b.p, b.dx, _, rfl, G2.ob, rfl, b, _, rfl, G2, ?_⟩
      exact told_of k' eb G2 (f1.trans f2)
theorem fn_unwish (T : Tx K mg) : FnOk P w K mg base (L2.CX P w) 7 T.d_unwish.f T.d_unwish.fd ["self"] (spUnwish K T.C T.eNotWished.C) := by
  have GL : FnOk P w K mg base CX0 6 T.d_look.f T.d_look.fd ["self", "house"] (spLookP K T.C preK) := fn_look T
  have GG : FnOk P w K mg base CX0 1 T.d_gone.f T.d_gone.fd ["self"] (spGone K T.C) := ok_gone T
  refine T.d_unwish.F.okX sc_unwish (fun vs H Q E h => ?_) (fun cdv A outer s H vs Q E hr h => ?_)
  · obtain ⟨a, g, rfl, _⟩ := h
    rfl
  · obtain ⟨a, g, rfl, G, ⟨ok, t, ht, hl⟩, kE, k⟩ := h
    have nd := sc_unwish.nd
    have hr1 : Room 1 _ := hr.mono (by decide)
    refine ⟨_, pss_cons (ps_if (pt_not (pt_val (pe_fld (pv 0) rfl))) (pss_one (ps_raise rfl (takes_of rfl rfl rfl rfl) (pmk_own PySem.F.excBase_ValueError T.eNotWished.x T.eNotWished.g T.eNotWished.k (raises_own T.eNotWished.b T.eNotWished.t) rfl))) pss_nil)
      (pss_cons (ps_fld (pv 0) pe_bl rfl)
      (pss_cons (ps_expr (pe_meth (pv 0) T.cl T.m_look GL hr T.d_look.b .nil pass0 (pa_cons pe_non pa_nil)))
      (pss_one (ps_ret (pe_meth0 (pv 0) T.cl T.m_gone GG hr1 T.d_gone.b .nil pass0))))), ?_⟩
    refine ⟨_, rfl, a.p, T.C, a.dx, _, _, rfl, G.ob, T.cl, T.n_wished, rfl, _, rfl, ?_⟩
    have es : stepR g .unwish = if g.wished = true then some (look { g with wished := false } none) else none := rfl
    cases hw : g.wished with
    | false =>
      refine iteT ?_
      exact kE (by rw [es, if_neg (by rw [hw]; exact Bool.false_ne_true)]) H (Same.refl H)
    | true =>
      refine iteF ?_
      have k' := k _ (by rw [es, if_pos hw])
      refine rd_stoC ?_
      refine G.sto T.cl T.n_wished { g with wished := false } fun H1 G1 f1 => ?_
      have hl1 : Fit t 10000 0 { g with wished := false } := { hl with }
      refine ⟨_, rfl, a.p, a.dx, _, rfl, G1.ob, rfl, a, _, none, rfl, G1, lim_look ht hl1, ⟨ok.nK, Nat.le_trans hl.pa (by decide), Nat.le_trans hl.go (by decide)⟩, fun b H2 eb G2 f2 => ?_⟩
      rw [← eb]
      refine ⟨_, rfl, b.p, b.dx, _, rfl, G2.ob, rfl, b, _, rfl, G2, ?_⟩
      exact told_of k' eb G2 (f1.trans f2)
end
end Ha

/-! The guest's defs, sixth part: is_name, is_letter, need_near, join, part. -/
namespace Ha
open PySem PySem.Spec PyProof.Rows L2
theorem inV_strs (x : Str) : ∀ l : List Str, inV (.str x) (l.map V.str) = decide (x ∈ l)
  | [] => by simp [inV]
  | y :: r => by
    have ih := inV_strs x r
    unfold inV at ih ⊢
    rw [List.map_cons, List.any_cons, ih]
    have e : eqV (.str y) (.str x) = decide (x = y) := by
      by_cases h : x = y
      · subst h
        simp [eqV]
      · have h2 : ¬ y = x := fun z => h z.symm
        simp [eqV, h, h2]
    rw [e]
    by_cases h1 : x = y
    · simp [h1]
    · simp [h1]
theorem flat_strs : ∀ l : List Str, (l.map V.str).all flatV = true
  | [] => rfl
  | x :: r => by
    rw [List.map_cons, List.all_cons, flat_strs r]
    rfl
theorem near_put {H : Hp} {h : Str} {t : Option (Str × Nat)} {v : V} (tv : toldR H t v) : ∀ {l : List (Str × Option (Str × Nat))} {kvs : List (Key × V)}, Paired (nearR H) l kvs → Paired (nearR H) (nearSet l h t) (kvs.map fun kv => if kv.1 = (Sum.inr h : Key) then (kv.1, v) else kv)
  | _, _, .nil => .nil
  | _, _, .cons (a := p) (b := kv) r q => by
    refine .cons ?_ (near_put tv q)
    show nearR H (if p.1 = h then (p.1, t) else p) (if kv.1 = (Sum.inr h : Key) then (kv.1, v) else kv)
    by_cases e : p.1 = h
    · have e2 : kv.1 = (Sum.inr h : Key) := by rw [r.1, e]
      rw [if_pos e, if_pos e2]
      refine ⟨r.1, ?_⟩
      cases t with
      | none => exact tv
      | some z => exact tv
    · have e2 : ¬ kv.1 = (Sum.inr h : Key) := by rw [r.1, inr_eq]; exact e
      rw [if_neg e, if_neg e2]
      exact r
theorem near_putK {H : Hp} {h : Str} {t : Option (Str × Nat)} {v : V} {l : List (Str × Option (Str × Nat))} {kvs : List (Key × V)} (p : Paired (nearR H) l kvs) (m : h ∈ l.map (·.1)) (tv : toldR H t v) : Paired (nearR H) (nearSet l h t) (putK kvs (Sum.inr h : Key) v) := by
  obtain ⟨u, hu, _⟩ := near_get p m
  unfold putK
  rw [valV_any, hu, if_pos (by rfl)]
  exact near_put tv p
theorem near_addK {H : Hp} {h : Str} {l : List (Str × Option (Str × Nat))} {kvs : List (Key × V)} (p : Paired (nearR H) l kvs) (m : h ∉ l.map (·.1)) : Paired (nearR H) (l ++ [(h, none)]) (putK kvs (Sum.inr h : Key) .non) := by
  rw [putK_new _ (near_no p m)]
  exact p.snoc ⟨rfl, rfl⟩
theorem near_dropK {H : Hp} {h : Str} : ∀ {l : List (Str × Option (Str × Nat))} {kvs : List (Key × V)}, Paired (nearR H) l kvs → Paired (nearR H) (nearDrop l h) (dropK kvs (Sum.inr h : Key))
  | _, _, .nil => .nil
  | _, _, .cons (a := p) (b := kv) r q => by
    have ih := near_dropK (h := h) q
    by_cases e : p.1 = h
    · rw [dropK_pos (by rw [r.1, e])]
      unfold nearDrop at ih ⊢
      rw [List.filter_cons_of_neg (by simp [e])]
      exact ih
    · rw [dropK_neg (by rw [r.1, inr_eq]; exact e)]
      unfold nearDrop at ih ⊢
      rw [List.filter_cons_of_pos (by simp [e])]
      exact .cons r ih
theorem near_some {H : Hp} {h : Str} {l : List (Str × Option (Str × Nat))} {kvs : List (Key × V)} (p : Paired (nearR H) l kvs) : (valV kvs (Sum.inr h : Key)).isSome = decide (h ∈ l.map (·.1)) := by
  by_cases m : h ∈ l.map (·.1)
  · obtain ⟨u, hu, _⟩ := near_get p m
    rw [hu, decide_eq_true m]
    rfl
  · rw [near_no p m, decide_eq_false m]
    rfl
theorem same_new {H : Hp} {b : Addr} {o : HO} (hb : H b = none) : Same H (upd H b o) := fun c u e => by
  rw [upd_ne (ne_of_none e hb)]
  exact e
/-! ### is_name -/
def spIsName : Sp := fun vs H Q _ => ∃ x : Str, vs = [.str x] ∧ Nm x ∧ ∀ H', Same H H' → Q (.bl true) H'
def letters : Str := "abcdefghijklmnopqrstuvwxyz"
theorem in_letters {c : Nat} (h1 : 97 ≤ c) (h2 : c ≤ 122) : c ∈ letters.cps.toList := by
  have e : ∀ i : Fin 26, (97 + i.1) ∈ letters.cps.toList := by decide +kernel
  have h3 := e ⟨c - 97, by omega⟩
  have h4 : 97 + (c - 97) = c := by omega
  rw [h4] at h3
  exact h3
theorem all_true (n : Nat) : (List.replicate n true).all id = true := by
  induction n with
  | zero => rfl
  | succ n ih =>
    rw [List.replicate_succ, List.all_cons, ih]
    rfl
section
variable {P : Program} {w : World} {K : PySem.W.Frag} {mg : Str → Option Value} {base : Heap}
theorem fn_isName (T : Tx K mg) : FnOk P w K mg base CX0 1 T.d_is_name.f T.d_is_name.fd ["thing"] spIsName := by
  refine T.d_is_name.F.ok sc_is_name (fun vs H Q E h => ?_) (fun cdv A outer s H vs Q E hr h => ?_)
  · obtain ⟨x, rfl, _⟩ := h
    rfl
  · obtain ⟨x, rfl, hx, k⟩ := h
    have nd := sc_is_name.nd
    refine ⟨_, pss_one (ps_ret (pe_and (pe_callB call_isi (by rfl) T.b_isinstance (by decide +kernel) (pa_cons (pv 0) (pa_cons (pe_bltn (v := .ty "str") (by rfl) T.b_str (by decide +kernel) rfl) pa_nil)))
      (pe_and (pe_chain op_le op_le pe_int (pe_callB call_len (by rfl) T.b_len PySem.boot_len (pa_cons (pv 0) pa_nil)) (pe_gi T.gMOST) (by rfl))
      (pe_one (pe_callB (cr_all rfl) (by rfl) T.b_all (by decide +kernel) (pa_cons (pe_lc (own := [("sign", 1)]) (g := gName 1) (tt := tYes) rfl nd (pi_str (pv 0)) (blkOk_by (own := [("sign", 1)]) (N := n_is_name) (sc := defScope s_is_name) (by decide +kernel))
        (fun _ _ _ _ _ => pg_name (i := 1) nd rfl (Or.inl rfl)) (fun _ _ _ _ _ => pts_nil) (fun _ _ _ _ _ => pe_cmpR op_in_sign (pv 1) (pe_gs T.gLETTERS) (by rfl))) pa_nil)))))), ?_⟩
    refine ⟨_, rfl, _, _, .type "str", _, true, rfl, .ty "str", .base (TyOf.str ..), kit_ty (by decide +kernel), true, rfl, iteT ?_⟩
    have hln : x.length = x.cps.toList.length := by
      show x.cps.size = _
      rw [Array.length_toList]
    have h1 : (1 : Int) ≤ ((x.length : Nat) : Int) := by have := hx.1; omega
    have h8 : ((x.length : Nat) : Int) ≤ 8 := by have := hx.2.1; omega
    refine ⟨_, rfl, _, _, rfl, ⟨Nat.le_trans (by have := hx.2.1; omega) (by decide : 8 ≤ sizeLine), rfl⟩, _, _, rfl, rfl, true, (show V.bl (decide _) = V.bl true by rw [decide_eq_true h1]), iteT ⟨_, _, rfl, rfl, true, (show V.bl (decide _) = V.bl true by rw [decide_eq_true h8]), iteT ?_⟩⟩
    refine ⟨_, rfl, x, rfl, fun D hD => ?_⟩
    refine ⟨fun i m H' => m = x.cps.size - i ∧ i ≤ x.cps.size ∧ H' = upd H D (.lst ((List.replicate i true).map V.bl)), ⟨x.cps.size, by simp⟩, ?_⟩
    rintro i m H' ⟨rfl, hi, rfl⟩
    by_cases hlt : i < x.cps.size
    · refine .inr ⟨hlt, fun H2 => H2 = upd H D (.lst ((List.replicate (i + 1) true).map V.bl)), fun H2 e => ⟨x.cps.size - (i + 1), by omega, rfl, hlt, e⟩, ?_⟩
      rintro y H2 ⟨rfl, c, hc, rfl⟩
      refine ⟨rfl, ?_⟩
      refine ⟨_, rfl, c, letters, rfl, rfl, ?_⟩
      have hm : c ∈ x.cps.toList := by
        rw [← Array.getElem?_toList] at hc
        exact List.mem_of_getElem? hc
      have hin := in_letters (hx.2.2 c hm).1 (hx.2.2 c hm).2
      rw [decide_eq_true hin]
      refine ⟨_, upd_same, ?_, ?_⟩
      · rw [List.length_map, List.length_replicate]
        exact sz5 (by have := hx.2.1; rw [Array.length_toList] at this; omega)
      · show _ = _
        rw [upd_upd, List.replicate_succ', List.map_append]
        rfl
    · have e : i = x.cps.size := by omega
      subst e
      refine .inl ⟨Nat.le_refl _, D, List.replicate x.cps.size true, rfl, SqL.of upd_same, ?_⟩
      rw [all_true]
      exact k _ (same_new hD)
end
end Ha

/-! The guest's defs, seventh part: is_letter, need_near, join, part. -/
namespace Ha
open PySem PySem.Spec PyProof.Rows L2
/-- the letters that are heard -/
def L7 (l : List Str) : Prop := l = lOpen ∨ l = lHeard ∨ l = lChair ∨ l = lBack ∨ l = lWord wClear ∨ l = lWord wBarred ∨ l = lWord wIn
theorem L7.len {l : List Str} (h : L7 l) : (l.length = 1 ∧ (l = lOpen ∨ l = lHeard ∨ l = lChair ∨ l = lBack)) ∨ (l.length = 2 ∧ ∃ x, l = lWord x ∧ (x = wClear ∨ x = wBarred ∨ x = wIn)) := by
  rcases h with rfl | rfl | rfl | rfl | rfl | rfl | rfl
  · exact .inl ⟨rfl, .inl rfl⟩
  · exact .inl ⟨rfl, .inr (.inl rfl)⟩
  · exact .inl ⟨rfl, .inr (.inr (.inl rfl))⟩
  · exact .inl ⟨rfl, .inr (.inr (.inr rfl))⟩
  · exact .inr ⟨rfl, _, rfl, .inl rfl⟩
  · exact .inr ⟨rfl, _, rfl, .inr (.inl rfl)⟩
  · exact .inr ⟨rfl, _, rfl, .inr (.inr rfl)⟩
def spIsLetter : Sp := fun vs H Q _ => ∃ (b : Addr) (l : List Str), vs = [.ref b] ∧ H b = some (.tup (l.map V.str)) ∧ L7 l ∧ ∀ H', Same H H' → Q (.bl true) H'
def tD (l : List Str) : PyData := .tuple (l.map PyData.str)
theorem dp_tup {K : PySem.W.Frag} {H : Hp} {b : Addr} {l : List Str} (h : SqT K H b (l.map V.str)) : Dp K H (.ref b) (tD l) := .tup h (dpAll_strs l)
section
variable {P : Program} {w : World} {K : PySem.W.Frag} {mg : Str → Option Value} {base : Heap}
theorem fn_isLetter (T : Tx K mg) : FnOk P w K mg base CX0 1 T.d_is_letter.f T.d_is_letter.fd ["thing"] spIsLetter := by
  refine T.d_is_letter.F.ok sc_is_letter (fun vs H Q E h => ?_) (fun cdv A outer s H vs Q E hr h => ?_)
  · obtain ⟨b, l, rfl, _⟩ := h
    rfl
  · obtain ⟨b, l, rfl, hb, hl, k⟩ := h
    have nd := sc_is_letter.nd
    have hu : (A.deeper (envOfC "is_letter" (defScope s_is_letter) s.heap.objs.size T.d_is_letter.f cdv)).units + 65 < cLine := by have := hr.un; omega
    refine ⟨_, pss_cons (ps_if (PW.pt (pw_or (pt_not (pt_val (pe_callB call_isi (by rfl) T.b_isinstance (by decide +kernel) (pa_cons (pv 0) (pa_cons (pe_bltn (v := .ty "tuple") (by rfl) T.b_tuple (by decide +kernel) rfl) pa_nil)))))
        (pw_or (pt_cmpR op_notIn_seq (pe_callB call_len (by rfl) T.b_len PySem.boot_len (pa_cons (pv 0) pa_nil)) (pe_tup (pa_cons pe_int (pa_cons pe_int pa_nil))) (by rfl))
        (pw_or1 (pt_not (pt_val (pe_callB (cr_all rfl) (by rfl) T.b_all (by decide +kernel) (pa_cons (pe_lc (own := [("part", 1)]) (g := gName 1) (tt := tYes) rfl nd (pi_tup (pv 0)) (blkOk_by (own := [("part", 1)]) (N := n_is_letter) (sc := defScope s_is_letter) (by decide +kernel))
          (fun _ _ _ _ _ => pg_name (i := 1) nd rfl (Or.inl rfl)) (fun _ _ _ _ _ => pts_nil) (te := tCB (rIsi K) (tCons (tVar 1) (tCons (tC (.ty "str")) tNil))) (fun _ _ _ _ _ => by exact (pe_callB (id := "isinstance") call_isi (by rfl) T.b_isinstance (by decide +kernel) (pa_cons (pv 1) (pa_cons (pe_bltn (v := .ty "str") (u := .type "str") (by rfl) T.b_str (by decide +kernel) rfl) pa_nil))))) pa_nil))))))))
        (pss_one (ps_ret pe_bl)) pss_nil)
      (pss_cons (ps_if (pt_cmpR op_eq (pe_callB call_len (by rfl) T.b_len PySem.boot_len (pa_cons (pv 0) pa_nil)) pe_int (nomark _))
        (pss_one (ps_ret (pe_cmpR (op_inTD hu) (pv 0) (pe_tup (pa_cons (pe_glob (v := .ref T.kOPEN.a) (by rfl) T.kOPEN.g rfl) (pa_cons (pe_glob (v := .ref T.kHEARD.a) (by rfl) T.kHEARD.g rfl) (pa_cons (pe_glob (v := .ref T.kCHAIR.a) (by rfl) T.kCHAIR.g rfl) (pa_cons (pe_glob (v := .ref T.kBACK.a) (by rfl) T.kBACK.g rfl) pa_nil))))) (by rfl)))) pss_nil)
      (pss_one (ps_ret (pe_and (pe_cmpR op_eq (pe_ix ix_tup (pv 0) pe_int (fun _ _ => rfl)) (pe_gs T.gWORD) (nomark _)) (pe_one (pe_cmpR op_in_seq (pe_ix ix_tup (pv 0) pe_int (fun _ _ => rfl)) (pe_tup (pa_cons (pe_gs T.gIN) (pa_cons (pe_gs T.gOUT) (pa_cons (pe_gs T.gCLEAR) (pa_cons (pe_gs T.gBARRED) pa_nil))))) (by rfl))))))), ?_⟩
    refine ⟨_, rfl, _, _, .type "tuple", _, true, rfl, .ty "tuple", .base (TyOf.tup hb), kit_ty (by decide +kernel), true, rfl, iteF ?_⟩
    refine ⟨_, rfl, _, _, rfl, .inr ⟨_, SqT.of hb, rfl⟩, (by show 2 ≤ sizeLine; decide), fun t ht => ?_⟩
    have hb1 : (upd H t (.tup [.int 1, .int 2])) b = some (.tup (l.map V.str)) := by
      rw [upd_ne (ne_of_none hb ht)]
      exact hb
    have s1 : Same H (upd H t (.tup [.int 1, .int 2])) := same_new ht
    have hlen := hl.len
    have hin : inV (.int ((l.map V.str).length : Nat)) [.int 1, .int 2] = true := by
      rw [List.length_map]
      rcases hlen with ⟨e, _⟩ | ⟨e, _⟩ <;> (rw [e]; decide +kernel)
    refine ⟨t, _, rfl, .inr (SqT.of upd_same), rfl, rfl, false, ?_, iteF ?_⟩
    · show V.bl (if true = true then !inV (.int ((l.map V.str).length : Nat)) [.int 1, .int 2] else _) = V.bl false
      rw [if_pos rfl, hin]
      rfl
    generalize upd H t (.tup [.int 1, .int 2]) = H1 at hb1 s1
    refine ⟨_, rfl, b, rfl, ⟨_, SqT.of hb1⟩, fun D hD => ?_⟩
    have nbD : b ≠ D := ne_of_none hb1 hD
    have l2 : l.length ≤ 2 := by
      rcases hlen with ⟨e, _⟩ | ⟨e, _⟩ <;> omega
    refine lc_tup (K := K) (a := b) (xs := l.map V.str) (fun i H' => H' = upd H1 D (.lst ((List.replicate i true).map V.bl))) rfl (fun i H' _ e => by rw [e]; exact SqT.of (by rw [upd_ne nbD]; exact hb1)) ?_ ?_
    · rintro i y H' hi rfl
      rw [List.getElem?_map] at hi
      obtain ⟨x, hx, rfl⟩ := Option.map_eq_some_iff.mp hi
      have hil := (List.getElem?_eq_some_iff.mp hx).1
      refine ⟨rfl, ?_⟩
      refine ⟨_, rfl, _, _, .type "str", _, true, rfl, .ty "str", .base (TyOf.str x), kit_ty (by decide +kernel), ?_⟩
      refine ⟨_, upd_same, ?_, ?_⟩
      · rw [List.length_map, List.length_replicate]
        exact sz5 (by omega)
      · show _ = _
        rw [upd_upd, List.replicate_succ', List.map_append]
        rfl
    · rintro H' rfl
      refine ⟨D, List.replicate (l.map V.str).length true, rfl, SqL.of upd_same, ?_⟩
      rw [all_true]
      refine ⟨true, rfl, iteF ?_⟩
      have s2 : Same H (upd H1 D (.lst ((List.replicate (l.map V.str).length true).map V.bl))) := s1.trans (same_new hD)
      have hb2 : (upd H1 D (.lst ((List.replicate (l.map V.str).length true).map V.bl))) b = some (.tup (l.map V.str)) := by
        rw [upd_ne nbD]
        exact hb1
      generalize upd H1 D (.lst ((List.replicate (l.map V.str).length true).map V.bl)) = H2 at s2 hb2
      refine ⟨_, rfl, _, _, rfl, .inr ⟨_, SqT.of hb2, rfl⟩, rfl, _, rfl, ?_⟩
      rw [List.length_map]
      rcases hlen with ⟨e, h4⟩ | ⟨e, x, rfl, h4⟩
      · rw [e, decide_eq_true (by rfl)]
        refine iteT ?_
        refine ⟨_, rfl, (by show 4 ≤ sizeLine; decide), fun t2 ht2 => ?_⟩
        have hb3 : (upd H2 t2 (.tup [.ref T.kOPEN.a, .ref T.kHEARD.a, .ref T.kCHAIR.a, .ref T.kBACK.a])) b = some (.tup (l.map V.str)) := by
          rw [upd_ne (ne_of_none hb2 ht2)]
          exact hb2
        refine ⟨_, [tD lOpen, tD lHeard, tD lChair, tD lBack], dp_tup (SqT.of hb3), .tup (SqT.of upd_same) (.cons (dp_tup (T.kOPEN.q _)) (.cons (dp_tup (T.kHEARD.q _)) (.cons (dp_tup (T.kCHAIR.q _)) (.cons (dp_tup (T.kBACK.q _)) .nil)))), ?_, by decide +kernel, ?_⟩
        · rcases h4 with rfl | rfl | rfl | rfl <;> decide +kernel
        · have ha : ([tD lOpen, tD lHeard, tD lChair, tD lBack].any fun z => PyData.eqv z (tD l)) = true := by
            rcases h4 with rfl | rfl | rfl | rfl <;> decide +kernel
          rw [ha]
          exact k _ (s2.trans (same_new ht2))
      · rw [e, decide_eq_false (by intro z; cases z)]
        refine iteF ?_
        refine ⟨_, rfl, b, _, _, _, rfl, rfl, SqT.of hb2, rfl, rfl, _, rfl, ?_⟩
        rw [decide_eq_true (by rfl)]
        refine iteT ?_
        refine ⟨_, rfl, b, _, _, _, rfl, rfl, SqT.of hb2, rfl, (by show 4 ≤ sizeLine; decide), fun t2 ht2 => ?_⟩
        refine ⟨t2, _, rfl, .inr (SqT.of upd_same), rfl, rfl, ?_⟩
        have ha : inV (.str x) [.str "in", .str "out", .str "clear", .str "barred"] = true := by
          rcases h4 with rfl | rfl | rfl <;> decide +kernel
        show Q (.bl (if false = true then _ else inV (.str x) [.str "in", .str "out", .str "clear", .str "barred"])) _
        rw [if_neg Bool.false_ne_true, ha]
        exact k _ (s2.trans (same_new ht2))
def spNeedNear (K : PySem.W.Frag) (C X : Addr) : Sp := fun vs H Q E => ∃ (a : GA) (g : G) (h : Str), vs = [.ref a.p, .str h] ∧ GuestAt K C H a g ∧ Nm h ∧ (h ∉ g.keys → ∀ H', Same H H' → E (.ref X) none H') ∧ (h ∈ g.keys → ∀ H', Same H H' → Q .non H')
theorem fn_needNear (T : Tx K mg) : FnOk P w K mg base (L2.CX P w) 2 T.d_need_near.f T.d_need_near.fd ["self", "house"] (spNeedNear K T.C T.eNoRoad.C) := by
  have GN : FnOk P w K mg base CX0 1 T.d_is_name.f T.d_is_name.fd ["thing"] spIsName := fn_isName T
  refine T.d_need_near.F.okX sc_need_near (fun vs H Q E h => ?_) (fun cdv A outer s H vs Q E hr h => ?_)
  · obtain ⟨a, g, h, rfl, _⟩ := h
    rfl
  · obtain ⟨a, g, h, rfl, G, hn, kE, k⟩ := h
    have nd := sc_need_near.nd
    have hu := hu_of hr
    refine ⟨_, pss_one (ps_if (PW.pt (pw_or (pt_not (pt_val (pe_call GN hr (by rfl) T.g_is_name T.d_is_name.F.kp T.d_is_name.b .nil pass0 (pa_cons (pv 1) pa_nil)))) (pw_or1 (pt_cmp (pc_dnotin hu (pv 1) (pe_fld (pv 0) rfl)) (by rfl)))))
      (pss_one (ps_raise rfl (takes_of rfl rfl rfl rfl) (pmk_own PySem.F.excBase_ValueError T.eNoRoad.x T.eNoRoad.g T.eNoRoad.k (raises_own T.eNoRoad.b T.eNoRoad.t) rfl))) pss_nil), ?_⟩
    refine ⟨_, rfl, h, rfl, hn, fun H1 s1 => ⟨true, rfl, iteF ?_⟩⟩
    have G1 := G.same s1
    obtain ⟨kvs, hd, hp⟩ := id G1.nr
    refine ⟨_, rfl, _, rfl, a.p, T.C, a.dx, _, _, rfl, G1.ob, T.cl, T.n_near, rfl, a.near, _, rfl, DGet.k (k := Sum.inr h) hd, _, rfl, ?_⟩
    rw [near_some hp]
    by_cases m : h ∈ g.near.map (·.1)
    · rw [decide_eq_true m]
      exact iteF (k m H1 s1)
    · rw [decide_eq_false m]
      exact iteT (kE m H1 s1)
end
end Ha

/-! The guest's defs, eighth part: join, part, hear_word, hear_open, hear_chair. -/
namespace Ha
open PySem PySem.Spec PyProof.Rows L2
section
variable {P : Program} {w : World} {K : PySem.W.Frag} {mg : Str → Option Value} {base : Heap}
theorem fit_pre {t : Nat} {g : G} (ht : t ≤ 1500) {p q : Nat} (f : Fit t p q g) (hp : p ≤ 50000) (hq : q ≤ 20000) : Fit 6000 60000 30000 g := f.mono (by omega) (by omega) (by omega)
theorem joinB_some {g : G} {h m : Str} (hm : g.mark = some m) : joinB g h = if h ∈ g.knows then g else tell { g with knows := srt (g.knows ++ [h]) } h (lWord m) := by
  cases g
  have e := hm
  simp only at e
  subst e
  rfl
theorem joinB_none {g : G} {h : Str} (hm : g.mark = none) : joinB g h = g := by
  unfold joinB
  rw [hm]
def spJoin (K : PySem.W.Frag) (C X : Addr) : Sp := fun vs H Q E => ∃ (a : GA) (g : G) (h : Str), vs = [.ref a.p, .str h] ∧ Nm h ∧ Deed K C X a g H (stepR g (.join h)) Q E
theorem fn_join (T : Tx K mg) : FnOk P w K mg base (L2.CX P w) 7 T.d_join.f T.d_join.fd ["self", "house"] (spJoin K T.C T.eTwice.C) := by
  have GN : FnOk P w K mg base CX0 1 T.d_is_name.f T.d_is_name.fd ["thing"] spIsName := fn_isName T
  have GT : FnOk P w K mg base CX0 1 T.d_tell.f T.d_tell.fd ["self", "house", "letter"] (spTell K T.C) := ok_tell T
  have GL : FnOk P w K mg base CX0 6 T.d_look.f T.d_look.fd ["self", "house"] (spLookP K T.C preK) := fn_look T
  have GG : FnOk P w K mg base CX0 1 T.d_gone.f T.d_gone.fd ["self"] (spGone K T.C) := ok_gone T
  refine T.d_join.F.okX sc_join (fun vs H Q E h => ?_) (fun cdv A outer s H vs Q E hr h => ?_)
  · obtain ⟨a, g, h, rfl, _⟩ := h
    rfl
  · obtain ⟨a, g, h, rfl, hn, G, ⟨ok, t, ht, hl⟩, kE, k⟩ := h
    have nd := sc_join.nd
    have hu := hu_of hr
    have hr1 : Room 1 _ := hr.mono (by decide)
    refine ⟨_, pss_cons (ps_if (pt_not (pt_val (pe_call GN hr1 (by rfl) T.g_is_name T.d_is_name.F.kp T.d_is_name.b .nil pass0 (pa_cons (pv 1) pa_nil)))) (pss_one ps_never) pss_nil)
      (pss_cons (ps_if (PW.pt (pw_or (pt_cmpR op_eq (pv 1) (pe_fld (pv 0) rfl) (nomark _)) (pw_or1 (pt_cmp (pc_din hu (pv 1) (pe_fld (pv 0) rfl)) (by rfl)))))
        (pss_one (ps_raise rfl (takes_of rfl rfl rfl rfl) (pmk_own PySem.F.excBase_ValueError T.eTwice.x T.eTwice.g T.eTwice.k (raises_own T.eTwice.b T.eTwice.t) rfl))) pss_nil)
      (pss_cons (ps_dput hu (pe_fld (pv 0) rfl) (pv 1) pe_non rfl)
      (pss_cons (ps_expr (pe_meth (pv 0) T.cl T.m_look GL hr T.d_look.b .nil pass0 (pa_cons pe_non pa_nil)))
      (pss_cons (ps_if (PW.pt (pw_and (pt_cmp (pc_notN (pe_fld (pv 0) rfl))) (pw_and1 (pt_cmpR op_notIn_seq (pv 1) (pe_fld (pv 0) rfl) (by rfl)))))
        (pss_cons (ps_fld (pv 0) (pe_callB cr_sortedSA (by rfl) T.b_sorted (by decide +kernel) (pa_cons (pe_op op_cat (pe_fld (pv 0) rfl) (pe_lst (pa_cons (pv 1) pa_nil))) pa_nil)) rfl)
        (pss_one (ps_expr (pe_meth (pv 0) T.cl T.m_tell GT hr1 T.d_tell.b .nil pass0 (pa_cons (pv 1) (pa_cons (pe_tup (pa_cons (pe_gs T.gWORD) (pa_cons (pe_fld (pv 0) rfl) pa_nil))) pa_nil)))))) pss_nil)
      (pss_one (ps_ret (pe_meth0 (pv 0) T.cl T.m_gone GG hr1 T.d_gone.b .nil pass0))))))), ?_⟩
    refine ⟨_, rfl, h, rfl, hn, fun H1 s1 => ⟨true, rfl, iteF ?_⟩⟩
    have G1 := G.same s1
    have f1 : Frm a.ft H a.ft H1 := Frm.same s1
    have es : stepR g (.join h) = if h = g.own ∨ h ∈ g.keys then none else some (joinB (joinA g h) h) := rfl
    refine ⟨_, rfl, _, rfl, a.p, T.C, a.dx, _, _, rfl, G1.ob, T.cl, T.n_own, rfl, rfl, _, rfl, ?_⟩
    by_cases e0 : h = g.own
    · rw [decide_eq_true (show V.str h = V.str g.own by rw [e0])]
      exact iteT (iteT (kE (by rw [es, if_pos (.inl e0)]) H1 s1))
    · rw [decide_eq_false (show ¬ V.str h = V.str g.own from fun z => e0 (V.str.inj z))]
      refine iteF ?_
      obtain ⟨kvs, hd, hp⟩ := id G1.nr
      refine ⟨_, rfl, _, rfl, a.p, T.C, a.dx, _, _, rfl, G1.ob, T.cl, T.n_near, rfl, a.near, _, rfl, DGet.k (k := Sum.inr h) hd, _, rfl, ?_⟩
      rw [near_some hp]
      by_cases m : h ∈ g.near.map (·.1)
      · rw [decide_eq_true m]
        exact iteT (kE (by rw [es, if_pos (.inr m)]) H1 s1)
      · rw [decide_eq_false m]
        refine iteF ?_
        have k' := k _ (by rw [es, if_neg (fun z => z.elim e0 m)])
        have hkl : kvs.length ≤ 100000 := by rw [paired_len hp]; have := hl.n; omega
        refine ⟨_, rfl, a.p, T.C, a.dx, _, _, rfl, G1.ob, T.cl, T.n_near, rfl, _, rfl, a.near, _, rfl, DPut.k (k := Sum.inr h) hd (sz5 hkl), ?_⟩
        obtain ⟨G2, f2⟩ := G1.in_near (l := g.near ++ [(h, none)]) (xs := putK kvs (Sum.inr h : Key) .non) (near_addK hp m)
        have f02 := f1.trans f2
        generalize upd H1 a.near (.dK (putK kvs (Sum.inr h : Key) .non)) = H2 at G2 f2 f02 ⊢
        have ok2 : Ok (joinA g h) := ok_joinA ok hn m
        have hl2 : Fit (t + 1) 10000 0 { g with near := g.near ++ [(h, none)] } := { hl.mono (Nat.le_succ t) (Nat.le_refl _) (Nat.le_refl _) with n := (by
          show (g.near ++ [(h, none)]).length ≤ t + 1
          rw [List.length_append]
          have := hl.n
          simp
          omega) }
        have hl3 := fit_look (c := none) hl2
        refine ⟨_, rfl, a.p, a.dx, _, rfl, G2.ob, rfl, a, _, none, rfl, G2, hl2.mono (by omega) (by decide) (by decide), ⟨ok.nK, Nat.le_trans hl.pa (by decide), Nat.le_trans hl.go (by decide)⟩, fun b H3 eb G3 f3 => ?_⟩
        have G3' : GuestAt K T.C H3 b (joinA g h) := G3
        have hl3' : Fit (t + 1) (10000 + 2) (0 + 4 * (t + 1)) (joinA g h) := hl3
        have f03 := f02.trans f3
        generalize joinA g h = g3 at G3' ok2 hl3' k'
        rw [← eb]
        refine ⟨_, rfl, b.p, T.C, b.dx, _, _, rfl, G3'.ob, T.cl, T.n_mark, rfl, _, rfl, ?_⟩
        cases hm : g3.mark with
        | none =>
          rw [joinB_none hm] at k'
          refine iteF (iteF ?_)
          refine ⟨_, rfl, b.p, b.dx, _, rfl, G3'.ob, rfl, b, _, rfl, G3', ?_⟩
          exact told_of k' eb G3' f03
        | some mk =>
          rw [joinB_some hm] at k'
          refine iteT ?_
          refine ⟨_, rfl, _, rfl, b.p, T.C, b.dx, _, _, rfl, G3'.ob, T.cl, T.n_knows, rfl, b.knows, _, rfl, .inl (SqL.of G3'.kn), rfl, flat_strs _, _, rfl, ?_⟩
          show (if (if true = true then !inV (.str h) (g3.knows.map V.str) else _) = true then _ else _)
          rw [if_pos rfl, inV_strs]
          by_cases mk2 : h ∈ g3.knows
          · rw [if_pos mk2] at k'
            rw [decide_eq_true mk2]
            refine iteF ?_
            refine ⟨_, rfl, b.p, b.dx, _, rfl, G3'.ob, rfl, b, _, rfl, G3', ?_⟩
            exact told_of k' eb G3' f03
          · rw [if_neg mk2] at k'
            rw [decide_eq_false mk2]
            refine iteT ?_
            refine ⟨_, rfl, b.p, T.C, b.dx, _, _, rfl, G3'.ob, T.cl, T.n_knows, rfl, _, rfl, (by show 1 ≤ sizeLine; decide), fun q1 hq1 => ?_⟩
            have G4 := G3'.upd_new (o := .lst [.str h]) hq1
            have f04 := f03.trans (Frm.new (F := b.ft) (o' := .lst [.str h]) hq1)
            have hkn : g3.knows.length ≤ 6000 := by have := hl3'.k; omega
            refine ⟨b.knows, q1, _, _, rfl, rfl, G4.kn, upd_same, ?_, fun q2 hq2 => ?_⟩
            · rw [List.length_map]
              exact sz5' (by show g3.knows.length + 1 ≤ 100000; omega)
            have G5 := G4.upd_new (o := .lst (g3.knows.map V.str ++ [.str h])) hq2
            have f05 := f04.trans (Frm.new (F := b.ft) (o' := .lst (g3.knows.map V.str ++ [.str h])) hq2)
            have e5 : (g3.knows ++ [h]).map V.str = g3.knows.map V.str ++ [.str h] := by rw [List.map_append]; rfl
            refine ⟨q2, g3.knows ++ [h], rfl, SqL.of (by rw [e5]; exact upd_same), fun ys q3 perm sorted hq3 => ?_⟩
            have ey : ys = srt (g3.knows ++ [h]) := srt_of perm sorted
            subst ey
            refine G5.sto_knows hq3 T.cl T.n_knows fun H6 G6 f6 => ?_
            have f06 := f05.trans f6
            generalize ec : ({ b with knows := q3 } : GA) = c at G6 f6 f06
            have ep : c.p = b.p := by rw [← ec]
            rw [← ep]
            refine ⟨_, rfl, c.p, c.dx, _, rfl, G6.ob, rfl, _, rfl, _, rfl, c.p, T.C, c.dx, _, _, rfl, G6.ob, T.cl, T.n_mark, rfl, (by show 2 ≤ sizeLine; decide), fun q4 hq4 => ?_⟩
            have eo : oV g3.mark = .str mk := by rw [hm]; rfl
            have G7 := G6.upd_new (o := .tup [.str "word", oV g3.mark]) hq4
            have f07 := f06.trans (Frm.new (F := c.ft) (o' := .tup [.str "word", oV g3.mark]) hq4)
            have f07' : Frm a.ft H c.ft (upd H6 q4 (.tup [.str "word", oV g3.mark])) := f07
            refine ⟨c, _, h, q4, lWord mk, rfl, G7, .inl (by rw [upd_same, eo]; rfl), ?_, fun H8 G8 f8 => ?_⟩
            · show g3.going.length ≤ 100000
              have := hl3'.go
              omega
            · refine ⟨_, rfl, c.p, c.dx, _, rfl, G8.ob, rfl, c, _, rfl, G8, ?_⟩
              exact told_of k' (ep.trans eb) G8 (f07'.trans f8)
end
end Ha

/-! The guest's defs, ninth part: part, hear_word, hear_open, hear_chair. -/
namespace Ha
open PySem PySem.Spec PyProof.Rows L2
section
variable {P : Program} {w : World} {K : PySem.W.Frag} {mg : Str → Option Value} {base : Heap}
def spPart (K : PySem.W.Frag) (C X : Addr) : Sp := fun vs H Q E => ∃ (a : GA) (g : G) (h : Str), vs = [.ref a.p, .str h] ∧ Nm h ∧ Deed K C X a g H (stepR g (.part h)) Q E
theorem fn_part (T : Tx K mg) : FnOk P w K mg base (L2.CX P w) 7 T.d_part.f T.d_part.fd ["self", "house"] (spPart K T.C T.eNoRoad.C) := by
  have GR : FnOk P w K mg base (L2.CX P w) 2 T.d_need_near.f T.d_need_near.fd ["self", "house"] (spNeedNear K T.C T.eNoRoad.C) := fn_needNear T
  have GL : FnOk P w K mg base CX0 6 T.d_look.f T.d_look.fd ["self", "house"] (spLookP K T.C preK) := fn_look T
  have GA' : FnOk P w K mg base CX0 5 T.d_answered.f T.d_answered.fd ["self", "house"] (spAnswered K T.C) := fn_answered T
  have GG : FnOk P w K mg base CX0 1 T.d_gone.f T.d_gone.fd ["self"] (spGone K T.C) := ok_gone T
  refine T.d_part.F.okX sc_part (fun vs H Q E h => ?_) (fun cdv A outer s H vs Q E hr h => ?_)
  · obtain ⟨a, g, h, rfl, _⟩ := h
    rfl
  · obtain ⟨a, g, h, rfl, hn, G, ⟨ok, t, ht, hl⟩, kE, k⟩ := h
    have nd := sc_part.nd
    have hu := hu_of hr
    have hr1 : Room 1 _ := hr.mono (by decide)
    have hr2 : Room 2 _ := hr.mono (by decide)
    have hr5 : Room 5 _ := hr.mono (by decide)
    have tk := takes_of (X := cxOf (L2.CX P w) P w K mg base n_part "Guest.part" (defScope s_part) T.d_part.f cdv A outer s H E) rfl rfl rfl rfl
    refine ⟨_, pss_cons (ps_expr (pe_meth (pv 0) T.cl T.m_need_near GR hr2 T.d_need_near.b .nil (passes_call tk (fun _ _ _ _ h => h)) (pa_cons (pv 1) pa_nil)))
      (pss_cons (ps_ddel (pe_fld (pv 0) rfl) (pv 1))
      (pss_cons (ps_fld (pv 0) (pe_lc (own := [("one", 2)]) (g := gName 2) rfl nd (pi_list (pe_fld (pv 0) rfl)) (blkOk_by (own := [("one", 2)]) (N := n_part) (sc := defScope s_part) (by decide +kernel))
        (fun _ _ _ _ _ => pg_name (i := 2) nd rfl (Or.inl rfl)) (fun _ _ _ _ _ => pts_one (pt_cmpR op_ne (pv 2) (pv 1) (nomark _))) (fun _ _ _ _ _ => pv 2)) rfl)
      (pss_cons (ps_fld (pv 0) (pe_lc (own := [("one", 2)]) (g := gName 2) rfl nd (pi_list (pe_fld (pv 0) rfl)) (blkOk_by (own := [("one", 2)]) (N := n_part) (sc := defScope s_part) (by decide +kernel))
        (fun _ _ _ _ _ => pg_name (i := 2) nd rfl (Or.inl rfl)) (fun _ _ _ _ _ => pts_one (pt_cmpR op_ne (pv 2) (pv 1) (nomark _))) (fun _ _ _ _ _ => pv 2)) rfl)
      (pss_cons (ps_fld (pv 0) (pe_lc (own := [("one", 2)]) (g := gName 2) rfl nd (pi_list (pe_fld (pv 0) rfl)) (blkOk_by (own := [("one", 2)]) (N := n_part) (sc := defScope s_part) (by decide +kernel))
        (fun _ _ _ _ _ => pg_name (i := 2) nd rfl (Or.inl rfl)) (fun _ _ _ _ _ => pts_one (pt_cmpR op_ne (pv 2) (pv 1) (nomark _))) (fun _ _ _ _ _ => pv 2)) rfl)
      (pss_cons (ps_if (pt_cmpR op_eq (pe_fld (pv 0) rfl) (pv 1) (nomark _)) (pss_one (ps_fld (pv 0) pe_non rfl)) pss_nil)
      (pss_cons (ps_expr (pe_meth (pv 0) T.cl T.m_look GL hr T.d_look.b .nil pass0 (pa_cons pe_non pa_nil)))
      (pss_cons (ps_if (pt_cmpR op_in_seq (pv 1) (pe_fld (pv 0) rfl) (by rfl)) (pss_one (ps_expr (pe_meth (pv 0) T.cl T.m_answered GA' hr5 T.d_answered.b .nil pass0 (pa_cons (pv 1) pa_nil)))) pss_nil)
      (pss_one (ps_ret (pe_meth0 (pv 0) T.cl T.m_gone GG hr1 T.d_gone.b .nil pass0)))))))))), ?_⟩
    have es : stepR g (.part h) = if h ∈ g.keys then some (partB (look (partA g h) none) h) else none := rfl
    refine ⟨_, rfl, a.p, a.dx, _, rfl, G.ob, rfl, _, rfl, a, g, h, rfl, G, hn, fun m H1 s1 => kE (by rw [es, if_neg m]) H1 s1, fun m H1 s1 => ?_⟩
    have k' := k _ (by rw [es, if_pos m])
    have G1 := G.same s1
    have f1 : Frm a.ft H a.ft H1 := Frm.same s1
    obtain ⟨kvs, hd, hp⟩ := id G1.nr
    -- del self.near[house]
    refine ⟨_, rfl, a.p, T.C, a.dx, _, _, rfl, G1.ob, T.cl, T.n_near, rfl, _, rfl, a.near, kvs, Sum.inr h, rfl, hd, rfl, (by rw [near_some hp]; exact decide_eq_true m), ?_⟩
    obtain ⟨G2, f2⟩ := G1.in_near (l := nearDrop g.near h) (xs := dropK kvs (Sum.inr h : Key)) (near_dropK hp)
    have f02 := f1.trans f2
    generalize upd H1 a.near (.dK (dropK kvs (Sum.inr h : Key))) = H2 at G2 f2 f02 ⊢
    -- self.knows = ..
    refine ⟨_, rfl, a.p, T.C, a.dx, _, _, rfl, G2.ob, T.cl, T.n_knows, rfl, a.knows, rfl, ⟨_, SqL.of G2.kn⟩, fun q1 hq1 => ?_⟩
    refine lcFilter (l := g.knows) (h := h) (SqL.of G2.kn) hq1 (by have := hl.k; omega) ?_
    refine G2.sto_knows hq1 T.cl T.n_knows fun H3 G3 f3 => ?_
    have f03 := f02.trans f3
    generalize eb : ({ a with knows := q1 } : GA) = b at G3 f3 f03
    have e1 : b.p = a.p := by rw [← eb]
    rw [← e1]
    -- self.debts = ..
    refine ⟨_, rfl, b.p, T.C, b.dx, _, _, rfl, G3.ob, T.cl, T.n_debts, rfl, b.debts, rfl, ⟨_, SqL.of G3.db⟩, fun q2 hq2 => ?_⟩
    refine lcFilter (l := g.debts) (h := h) (SqL.of G3.db) hq2 (by have := hl.d; omega) ?_
    refine G3.sto_debts hq2 T.cl T.n_debts fun H4 G4 f4 => ?_
    have f04 := f03.trans f4
    generalize ec : ({ b with debts := q2 } : GA) = c at G4 f4 f04
    have e2 : c.p = b.p := by rw [← ec]
    rw [← e2]
    -- self.seats = ..
    refine ⟨_, rfl, c.p, T.C, c.dx, _, _, rfl, G4.ob, T.cl, T.n_seats, rfl, c.seats, rfl, ⟨_, SqL.of G4.st⟩, fun q3 hq3 => ?_⟩
    refine lcFilter (l := g.seats) (h := h) (SqL.of G4.st) hq3 (by have := hl.s; omega) ?_
    refine G4.sto_seats hq3 T.cl T.n_seats fun H5 G5 f5 => ?_
    have f05 := f04.trans f5
    generalize ed : ({ c with seats := q3 } : GA) = d at G5 f5 f05
    have e3 : d.p = c.p := by rw [← ed]
    have ep : d.p = a.p := e3.trans (e2.trans e1)
    rw [← e3]
    -- if self.source == house: self.source = None
    refine ⟨_, rfl, d.p, T.C, d.dx, _, _, rfl, G5.ob, T.cl, T.n_source, rfl, _, rfl, scal_oV g.source (some h), _, rfl, ?_⟩
    have ok2 : Ok (partA g h) := ok_partA ok
    have hl2 : Fit t 10000 0 (partA g h) := fit_partA hl
    have go : ∀ H6, GuestAt K T.C H6 d (partA g h) → Frm a.ft H d.ft H6 →
        tSeq (tDrop (tMeth T.C "look" (spLookP K T.C preK) [] E0 (tVar 0) (tCons (tC V.non) tNil))) (tSeq (tIfS (tTest (tOp (rIn K false) (tVar 1) (tFld K (tVar 0) "waits"))) (tDrop (tMeth T.C "answered" (spAnswered K T.C) [] E0 (tVar 0) (tCons (tVar 1) tNil))) tNext) (tRet (tMeth T.C "gone" (spGone K T.C) [] E0 (tVar 0) tNil)))
          { nx := fun _ H' => Q .non H', rt := Q } [some (.ref d.p), some (.str h), none] H6 := by
      intro H6 G6 f06
      refine ⟨_, rfl, d.p, d.dx, _, rfl, G6.ob, rfl, d, _, none, rfl, G6, fit_pre ht hl2 (by decide) (by decide), ⟨ok2.nK, Nat.le_trans hl2.pa (by decide), Nat.le_trans hl2.go (by decide)⟩, fun e H7 ee G7 f7 => ?_⟩
      have ok3 : Ok (look (partA g h) none) := ok_look ok2 fun _ z => nomatch z
      have hl3 := fit_look (c := none) hl2
      generalize look (partA g h) none = g7 at G7 ok3 hl3 k'
      have f07 := f06.trans f7
      rw [← ee]
      refine ⟨_, rfl, _, rfl, e.p, T.C, e.dx, _, _, rfl, G7.ob, T.cl, T.n_waits, rfl, e.waits, _, rfl, .inl (SqL.of G7.wt), rfl, flat_strs _, _, rfl, ?_⟩
      show (if (if false = true then _ else inV (.str h) (g7.waits.map V.str)) = true then _ else _)
      rw [if_neg Bool.false_ne_true, inV_strs]
      unfold partB at k'
      by_cases mw : h ∈ g7.waits
      · rw [if_pos mw] at k'
        rw [decide_eq_true mw]
        refine iteT ?_
        have hmk : g7.mark = none := ok3.op1 (ok3.op2.mpr fun z => by rw [z] at mw; cases mw)
        refine ⟨_, rfl, e.p, e.dx, _, rfl, G7.ob, rfl, _, rfl, e, g7, h, rfl, G7, hl3.mono (by omega) (by decide) (by omega), hmk, ok3.nW, fun f H8 ef G8 f8 => ?_⟩
        rw [← ef]
        refine ⟨_, rfl, f.p, f.dx, _, rfl, G8.ob, rfl, f, _, rfl, G8, ?_⟩
        exact told_of k' (ef.trans (ee.trans ep)) G8 (f07.trans f8)
      · rw [if_neg mw] at k'
        rw [decide_eq_false mw]
        refine iteF ?_
        refine ⟨_, rfl, e.p, e.dx, _, rfl, G7.ob, rfl, e, _, rfl, G7, ?_⟩
        exact told_of k' (ee.trans ep) G7 f07
    by_cases hs : g.source = some h
    · rw [decide_eq_true (show oV g.source = V.str h by rw [hs]; rfl)]
      refine iteT ?_
      have eg : ({ g with near := nearDrop g.near h, knows := g.knows.filter fun x => decide (x ≠ h), debts := g.debts.filter fun x => decide (x ≠ h), seats := g.seats.filter fun x => decide (x ≠ h), source := none } : Ha.G) = partA g h := by
        unfold partA
        rw [if_pos hs]
      refine rd_sfld (rd_tc ?_)
      refine G5.sto (y := .non) T.cl T.n_source { g with near := nearDrop g.near h, knows := g.knows.filter fun x => decide (x ≠ h), debts := g.debts.filter fun x => decide (x ≠ h), seats := g.seats.filter fun x => decide (x ≠ h), source := none } fun H6 G6 f6 => ?_
      rw [eg] at G6
      exact go H6 G6 (f05.trans f6)
    · rw [decide_eq_false (show ¬ oV g.source = V.str h from fun z => hs (oV_inj.mp (show oV g.source = oV (some h) from z)))]
      refine iteF ?_
      have eg : ({ g with near := nearDrop g.near h, knows := g.knows.filter fun x => decide (x ≠ h), debts := g.debts.filter fun x => decide (x ≠ h), seats := g.seats.filter fun x => decide (x ≠ h) } : Ha.G) = partA g h := by
        unfold partA
        rw [if_neg hs]
      rw [eg] at G5
      exact go H5 G5 f05
end
end Ha

/-! The guest's defs, tenth part: hear_word, hear_open, hear_chair, hear. -/
namespace Ha
open PySem PySem.Spec PyProof.Rows L2
section
variable {P : Program} {w : World} {K : PySem.W.Frag} {mg : Str → Option Value} {base : Heap}
/-- an inner hearing: refused, or moved on; the letters wait in going -/
def Inner (K : PySem.W.Frag) (C X : Addr) (a : GA) (g : G) (H : Hp) (o : Option G) (Q : VK) (E : XK) : Prop := GuestAt K C H a g ∧ preS g ∧ (o = none → ∀ H', Same H H' → E (.ref X) none H') ∧ ∀ g', o = some g' → Post K C a H g' Q
def wordO (g : G) (h wd : Str) : Option G := if ¬ (wd = wClear ∨ wd = wBarred) ∨ nearAt g.near h ≠ none ∨ h ∈ g.debts then none else some (hearWord g h wd)
def spHearWord (K : PySem.W.Frag) (C X : Addr) : Sp := fun vs H Q E => ∃ (a : GA) (g : G) (h wd : Str), vs = [.ref a.p, .str h, .str wd] ∧ Nm h ∧ h ∈ g.keys ∧ Inner K C X a g H (wordO g h wd) Q E
theorem fn_hearWord (T : Tx K mg) : FnOk P w K mg base (L2.CX P w) 7 T.d_hear_word.f T.d_hear_word.fd ["self", "house", "word"] (spHearWord K T.C T.eNoLetter.C) := by
  have GL : FnOk P w K mg base CX0 6 T.d_look.f T.d_look.fd ["self", "house"] (spLookP K T.C preK) := fn_look T
  refine T.d_hear_word.F.okX sc_hear_word (fun vs H Q E h => ?_) (fun cdv A outer s H vs Q E hr h => ?_)
  · obtain ⟨a, g, h, wd, rfl, _⟩ := h
    rfl
  · obtain ⟨a, g, h, wd, rfl, hn, hk, G, ⟨ok, t, ht, hl⟩, kE, k⟩ := h
    have nd := sc_hear_word.nd
    have hu := hu_of hr
    refine ⟨_, pss_cons (ps_if (PW.pt (pw_or (pt_cmpR op_notIn_seq (pv 2) (pe_tup (pa_cons (pe_gs T.gCLEAR) (pa_cons (pe_gs T.gBARRED) pa_nil))) (by rfl))
        (pw_or (pt_cmp (pc_notN (pe_dget hu (pe_fld (pv 0) rfl) (pv 1) (fun _ _ => rfl)))) (pw_or1 (pt_cmpR op_in_seq (pv 1) (pe_fld (pv 0) rfl) (by rfl))))))
        (pss_one (ps_raise rfl (takes_of rfl rfl rfl rfl) (pmk_own PySem.F.excBase_ValueError T.eNoLetter.x T.eNoLetter.g T.eNoLetter.k (raises_own T.eNoLetter.b T.eNoLetter.t) rfl))) pss_nil)
      (pss_cons (ps_fldaug (pv 0) pe_int in_add)
      (pss_cons (ps_dput hu (pe_fld (pv 0) rfl) (pv 1) (pe_tup (pa_cons (pv 2) (pa_cons (pe_fld (pv 0) rfl) pa_nil))) rfl)
      (pss_one (ps_expr (pe_meth (pv 0) T.cl T.m_look GL hr T.d_look.b .nil pass0 (pa_cons (pv 1) pa_nil)))))), ?_⟩
    refine ⟨_, rfl, (by show 2 ≤ sizeLine; decide), fun q hq => ?_⟩
    have s1 : Same H (upd H q (.tup [.str "clear", .str "barred"])) := same_new hq
    have G1 := G.same s1
    have f1 : Frm a.ft H a.ft (upd H q (.tup [.str "clear", .str "barred"])) := Frm.same s1
    have einv : inV (.str wd) [.str "clear", .str "barred"] = decide (wd = wClear ∨ wd = wBarred) := by
      have := inV_strs wd [wClear, wBarred]
      have e2 : decide (wd ∈ [wClear, wBarred]) = decide (wd = wClear ∨ wd = wBarred) := by simp
      rw [e2] at this
      exact this
    refine ⟨q, _, rfl, .inr (SqT.of upd_same), rfl, rfl, _, rfl, ?_⟩
    show (if (if true = true then !inV (.str wd) [.str "clear", .str "barred"] else _) = true then _ else _)
    rw [if_pos rfl, einv]
    generalize upd H q (.tup [.str "clear", .str "barred"]) = H1 at s1 G1 f1
    by_cases hw : wd = wClear ∨ wd = wBarred
    · rw [decide_eq_true hw]
      refine iteF ?_
      obtain ⟨kvs, hd, hp⟩ := id G1.nr
      obtain ⟨v, hv, tv⟩ := near_get hp hk
      refine ⟨_, rfl, a.p, T.C, a.dx, _, _, rfl, G1.ob, T.cl, T.n_near, rfl, _, rfl, a.near, v, rfl, hv ▸ DGet.k (k := Sum.inr h) hd, ?_⟩
      cases hna : nearAt g.near h with
      | some z =>
        obtain ⟨w1, n1⟩ := z
        rw [hna] at tv
        obtain ⟨ta, rfl, _⟩ := tv
        refine ⟨_, rfl, iteT (iteT ?_)⟩
        exact kE (by unfold wordO; rw [if_pos (.inr (.inl (by rw [hna]; intro z; cases z)))]) H1 s1
      | none =>
        rw [hna] at tv
        have tv' : v = .non := tv
        subst tv'
        refine ⟨_, rfl, iteF ?_⟩
        refine ⟨_, rfl, _, rfl, a.p, T.C, a.dx, _, _, rfl, G1.ob, T.cl, T.n_debts, rfl, a.debts, _, rfl, .inl (SqL.of G1.db), rfl, flat_strs _, _, rfl, ?_⟩
        show (if (if false = true then _ else inV (.str h) (g.debts.map V.str)) = true then _ else _)
        rw [if_neg Bool.false_ne_true, inV_strs]
        by_cases hdb : h ∈ g.debts
        · rw [decide_eq_true hdb]
          refine iteT ?_
          exact kE (by unfold wordO; rw [if_pos (.inr (.inr hdb))]) H1 s1
        · rw [decide_eq_false hdb]
          refine iteF ?_
          have k' := k _ (by unfold wordO; rw [if_neg (fun z => z.elim (fun z => z hw) fun z => z.elim (fun z => z hna) hdb)])
          -- self.ears += 1
          refine ⟨_, rfl, a.p, T.C, a.dx, _, _, rfl, G1.ob, T.cl, T.n_ears, rfl, _, _, rfl, rfl, a.dx, _, G1.ob, (by show 14 < 1000; decide), ?_⟩
          obtain ⟨G2, f2⟩ := G1.put (f := "ears") (y := .int ((g.ears : Int) + 1)) { g with ears := g.ears + 1 } (by rfl)
          have f02 := f1.trans f2
          generalize upd H1 a.p (.ins T.C a.dx (putF "ears" (V.int ((g.ears : Int) + 1)) (gF a g))) = H2 at G2 f2 f02 ⊢
          -- self.near[house] = (word, self.ears)
          refine ⟨_, rfl, _, rfl, a.p, T.C, a.dx, _, _, rfl, G2.ob, T.cl, T.n_ears, rfl, (by show 2 ≤ sizeLine; decide), fun q2 hq2 => ?_⟩
          have G3 := G2.upd_new (o := .tup [.str wd, .int ((g.ears + 1 : Nat) : Int)]) hq2
          have f03 := f02.trans (Frm.new (F := a.ft) (o' := .tup [.str wd, .int ((g.ears + 1 : Nat) : Int)]) hq2)
          obtain ⟨kvs3, hd3, hp3⟩ := id G3.nr
          have hkl : kvs3.length ≤ 100000 := by rw [paired_len hp3]; have := hl.n; show g.near.length ≤ _; omega
          have ht3 : (upd H2 q2 (.tup [.str wd, .int ((g.ears + 1 : Nat) : Int)])) q2 = some (.tup [.str wd, .int ((g.ears + 1 : Nat) : Int)]) := upd_same
          refine ⟨_, rfl, a.p, T.C, a.dx, _, _, rfl, G3.ob, T.cl, T.n_near, rfl, _, rfl, a.near, _, rfl, DPut.k (k := Sum.inr h) hd3 (sz5 hkl), ?_⟩
          obtain ⟨G4, f4⟩ := G3.in_near (l := nearSet g.near h (some (wd, g.ears + 1))) (xs := putK kvs3 (Sum.inr h : Key) (.ref q2)) (near_putK hp3 hk ⟨q2, rfl, ht3⟩)
          have f04 := f03.trans f4
          have hl4 : Fit t 10000 0 { g with ears := g.ears + 1, near := nearSet g.near h (some (wd, g.ears + 1)) } := { hl with n := (by show (nearSet g.near h _).length ≤ t; rw [set_len]; exact hl.n) }
          refine ⟨_, rfl, a.p, a.dx, _, rfl, G4.ob, rfl, _, rfl, a, _, some h, rfl, G4, fit_pre ht hl4 (by decide) (by decide), ⟨ok.nK, Nat.le_trans hl.pa (by decide), Nat.le_trans hl.go (by decide)⟩, fun b H5 eb G5 f5 => ?_⟩
          exact k' b H5 eb G5 (f04.trans f5)
    · rw [decide_eq_false hw]
      refine iteT (iteT ?_)
      exact kE (by unfold wordO; rw [if_pos (.inl hw)]) H1 s1
def openO (g : G) (h : Str) : Option G := if nearAt g.near h = none then none else some (hearOpenB g.opened (hearOpenA g h) h)
def spHearOpen (K : PySem.W.Frag) (C X : Addr) : Sp := fun vs H Q E => ∃ (a : GA) (g : G) (h : Str), vs = [.ref a.p, .str h] ∧ Nm h ∧ h ∈ g.keys ∧ Inner K C X a g H (openO g h) Q E
theorem fn_hearOpen (T : Tx K mg) : FnOk P w K mg base (L2.CX P w) 7 T.d_hear_open.f T.d_hear_open.fd ["self", "house"] (spHearOpen K T.C T.eNoLetter.C) := by
  have GL : FnOk P w K mg base CX0 6 T.d_look.f T.d_look.fd ["self", "house"] (spLookP K T.C preK) := fn_look T
  have GT : FnOk P w K mg base CX0 1 T.d_tell.f T.d_tell.fd ["self", "house", "letter"] (spTell K T.C) := ok_tell T
  refine T.d_hear_open.F.okX sc_hear_open (fun vs H Q E h => ?_) (fun cdv A outer s H vs Q E hr h => ?_)
  · obtain ⟨a, g, h, rfl, _⟩ := h
    rfl
  · obtain ⟨a, g, h, rfl, hn, hk, G, ⟨ok, t, ht, hl⟩, kE, k⟩ := h
    have nd := sc_hear_open.nd
    have hu := hu_of hr
    have hr1 : Room 1 _ := hr.mono (by decide)
    refine ⟨_, pss_cons (ps_if (pt_cmp (pc_isN (pe_dget hu (pe_fld (pv 0) rfl) (pv 1) (fun _ _ => rfl))))
        (pss_one (ps_raise rfl (takes_of rfl rfl rfl rfl) (pmk_own PySem.F.excBase_ValueError T.eNoLetter.x T.eNoLetter.g T.eNoLetter.k (raises_own T.eNoLetter.b T.eNoLetter.t) rfl))) pss_nil)
      (pss_cons (ps_dput hu (pe_fld (pv 0) rfl) (pv 1) pe_non rfl)
      (pss_cons (ps_set (i := 2) nd rfl (.inl rfl) (pe_fld (pv 0) rfl))
      (pss_cons (ps_expr (pe_meth (pv 0) T.cl T.m_look GL hr T.d_look.b .nil pass0 (pa_cons (pv 1) pa_nil)))
      (pss_one (ps_if (PW.pt (pw_and (pt_val (pe_fld (pv 0) rfl)) (pw_and1 (pt_not (pt_val (pv 2))))))
        (pss_one (ps_expr (pe_bm PySem.F.plainAttrs_list PySem.F.slot_list_append PySem.F.type_list_append mt_append (pe_fld (pv 0) rfl) (pa_cons (pv 1) pa_nil))))
        (pss_one (ps_expr (pe_meth (pv 0) T.cl T.m_tell GT hr1 T.d_tell.b .nil pass0 (pa_cons (pv 1) (pa_cons (pe_glob (v := .ref T.kHEARD.a) (by rfl) T.kHEARD.g rfl) pa_nil)))))))))), ?_⟩
    obtain ⟨kvs, hd, hp⟩ := id G.nr
    obtain ⟨v, hv, tv⟩ := near_get hp hk
    refine ⟨_, rfl, a.p, T.C, a.dx, _, _, rfl, G.ob, T.cl, T.n_near, rfl, _, rfl, a.near, v, rfl, hv ▸ DGet.k (k := Sum.inr h) hd, ?_⟩
    cases hna : nearAt g.near h with
    | none =>
      rw [hna] at tv
      have tv' : v = .non := tv
      subst tv'
      refine ⟨_, rfl, iteT ?_⟩
      exact kE (by unfold openO; rw [if_pos hna]) H (Same.refl H)
    | some z =>
      obtain ⟨w1, n1⟩ := z
      rw [hna] at tv
      obtain ⟨ta, rfl, _⟩ := tv
      refine ⟨_, rfl, iteF ?_⟩
      have k' := k _ (by unfold openO; rw [if_neg (by rw [hna]; intro z; cases z)])
      have hkl : kvs.length ≤ 100000 := by rw [paired_len hp]; have := hl.n; omega
      refine ⟨_, rfl, a.p, T.C, a.dx, _, _, rfl, G.ob, T.cl, T.n_near, rfl, _, rfl, a.near, _, rfl, DPut.k (k := Sum.inr h) hd (sz5 hkl), ?_⟩
      obtain ⟨G1, f1⟩ := G.in_near (l := nearSet g.near h none) (xs := putK kvs (Sum.inr h : Key) .non) (near_putK hp hk rfl)
      generalize upd H a.near (.dK (putK kvs (Sum.inr h : Key) .non)) = H1 at G1 f1 ⊢
      have hl1 : Fit t 10000 0 { g with near := nearSet g.near h none } := { hl with n := (by show (nearSet g.near h _).length ≤ t; rw [set_len]; exact hl.n) }
      have hl2 := fit_look (c := some h) hl1
      refine ⟨_, rfl, a.p, T.C, a.dx, _, _, rfl, G1.ob, T.cl, T.n_opened, rfl, ?_⟩
      refine ⟨_, rfl, a.p, a.dx, _, rfl, G1.ob, rfl, _, rfl, a, _, some h, rfl, G1, fit_pre ht hl1 (by decide) (by decide), ⟨ok.nK, Nat.le_trans hl.pa (by decide), Nat.le_trans hl.go (by decide)⟩, fun b H2 eb G2 f2 => ?_⟩
      have G2' : GuestAt K T.C H2 b (hearOpenA g h) := G2
      have hl2' : Fit t (10000 + 2) (0 + 4 * t) (hearOpenA g h) := hl2
      have f02 := f1.trans f2
      generalize hearOpenA g h = g2 at G2' hl2' k'
      unfold hearOpenB at k'
      rw [← eb]
      refine ⟨_, rfl, b.p, T.C, b.dx, _, _, rfl, G2'.ob, T.cl, T.n_opened, rfl, _, rfl, ?_⟩
      have app : g2.opened = true → g.opened = false → tDrop (tBM K "list" rAppend (tFld K (tVar 0) "debts") (tCons (tVar 1) tNil)) { nx := fun _ H' => Q .non H', rt := Q } [some (.ref b.p), some (.str h), some (.bl g.opened)] H2 := fun h1 h2 => by
        rw [if_pos ⟨h1, h2⟩] at k'
        refine ⟨_, rfl, b.p, T.C, b.dx, _, _, rfl, G2'.ob, T.cl, T.n_debts, rfl, .inl ⟨rfl, _, SqL.of G2'.db⟩, _, rfl, b.debts, _, _, rfl, rfl, G2'.db, ?_, ?_⟩
        · rw [List.length_map]
          exact sz5 (by have := hl2'.d; omega)
        · obtain ⟨G3, f3⟩ := G2'.in_debts (l := g2.debts ++ [h])
          have e3 : (g2.debts ++ [h]).map V.str = g2.debts.map V.str ++ [.str h] := by rw [List.map_append]; rfl
          rw [e3] at G3 f3
          exact k' b _ eb G3 (f02.trans f3)
      have tel : ¬ (g2.opened = true ∧ g.opened = false) → tDrop (tMeth T.C "tell" (spTell K T.C) [] E0 (tVar 0) (tCons (tVar 1) (tCons (tC (V.ref T.kHEARD.a)) tNil))) { nx := fun _ H' => Q .non H', rt := Q } [some (.ref b.p), some (.str h), some (.bl g.opened)] H2 := fun h1 => by
        rw [if_neg h1] at k'
        refine ⟨_, rfl, b.p, b.dx, _, rfl, G2'.ob, rfl, _, rfl, b, g2, h, T.kHEARD.a, lHeard, rfl, G2', sq_kt T.kHEARD _, ?_, fun H3 G3 f3 => ?_⟩
        · have := hl2'.go
          omega
        · exact k' b _ eb G3 (f02.trans f3)
      cases h1 : g2.opened with
      | false => exact iteF (iteF (tel fun z => by rw [h1] at z; cases z.1))
      | true =>
        refine iteT ?_
        refine ⟨_, rfl, _, rfl, ?_⟩
        cases h2 : g.opened with
        | false =>
          have z := app h1 h2
          rw [h2] at z
          exact iteT z
        | true =>
          have z := tel fun z => by rw [h2] at z; cases z.2
          rw [h2] at z
          exact iteF z
def chairO (g : G) (h : Str) : Option G := if h ∈ g.seats then none else some (hearChair g h)
def spHearChair (K : PySem.W.Frag) (C X : Addr) : Sp := fun vs H Q E => ∃ (a : GA) (g : G) (h : Str), vs = [.ref a.p, .str h] ∧ Inner K C X a g H (chairO g h) Q E
theorem fn_hearChair (T : Tx K mg) : FnOk P w K mg base (L2.CX P w) 2 T.d_hear_chair.f T.d_hear_chair.fd ["self", "house"] (spHearChair K T.C T.eNoLetter.C) := by
  have GT : FnOk P w K mg base CX0 1 T.d_tell.f T.d_tell.fd ["self", "house", "letter"] (spTell K T.C) := ok_tell T
  refine T.d_hear_chair.F.okX sc_hear_chair (fun vs H Q E h => ?_) (fun cdv A outer s H vs Q E hr h => ?_)
  · obtain ⟨a, g, h, rfl, _⟩ := h
    rfl
  · obtain ⟨a, g, h, rfl, G, ⟨ok, t, ht, hl⟩, kE, k⟩ := h
    have nd := sc_hear_chair.nd
    refine ⟨_, pss_cons (ps_if (pt_cmpR op_in_seq (pv 1) (pe_fld (pv 0) rfl) (by rfl))
        (pss_one (ps_raise rfl (takes_of rfl rfl rfl rfl) (pmk_own PySem.F.excBase_ValueError T.eNoLetter.x T.eNoLetter.g T.eNoLetter.k (raises_own T.eNoLetter.b T.eNoLetter.t) rfl))) pss_nil)
      (pss_one (ps_if (PW.pt (pw_or (pt_cmpR op_eq (pe_fld (pv 0) rfl) (pe_gs T.gIN) (nomark _)) (pw_or1 (pt_val (pe_fld (pv 0) rfl)))))
        (pss_one (ps_expr (pe_bm PySem.F.plainAttrs_list PySem.F.slot_list_append PySem.F.type_list_append mt_append (pe_fld (pv 0) rfl) (pa_cons (pv 1) pa_nil))))
        (pss_one (ps_expr (pe_meth (pv 0) T.cl T.m_tell GT hr T.d_tell.b .nil pass0 (pa_cons (pv 1) (pa_cons (pe_glob (v := .ref T.kBACK.a) (by rfl) T.kBACK.g rfl) pa_nil))))))), ?_⟩
    refine ⟨_, rfl, _, rfl, a.p, T.C, a.dx, _, _, rfl, G.ob, T.cl, T.n_seats, rfl, a.seats, _, rfl, .inl (SqL.of G.st), rfl, flat_strs _, _, rfl, ?_⟩
    show (if (if false = true then _ else inV (.str h) (g.seats.map V.str)) = true then _ else _)
    rw [if_neg Bool.false_ne_true, inV_strs]
    by_cases hs : h ∈ g.seats
    · rw [decide_eq_true hs]
      exact iteT (kE (by unfold chairO; rw [if_pos hs]) H (Same.refl H))
    · rw [decide_eq_false hs]
      refine iteF ?_
      have k' := k _ (by unfold chairO; rw [if_neg hs])
      unfold hearChair at k'
      have app : (g.mark = some wIn ∨ g.opened = true) → tDrop (tBM K "list" rAppend (tFld K (tVar 0) "seats") (tCons (tVar 1) tNil)) { nx := fun _ H' => Q .non H', rt := Q } [some (.ref a.p), some (.str h)] H := fun h1 => by
        rw [if_pos h1] at k'
        refine ⟨_, rfl, a.p, T.C, a.dx, _, _, rfl, G.ob, T.cl, T.n_seats, rfl, .inl ⟨rfl, _, SqL.of G.st⟩, _, rfl, a.seats, _, _, rfl, rfl, G.st, ?_, ?_⟩
        · rw [List.length_map]
          exact sz5 (by have := hl.s; omega)
        · obtain ⟨G3, f3⟩ := G.in_seats (l := g.seats ++ [h])
          have e3 : (g.seats ++ [h]).map V.str = g.seats.map V.str ++ [.str h] := by rw [List.map_append]; rfl
          rw [e3] at G3 f3
          exact k' a _ rfl G3 f3
      have tel : ¬ (g.mark = some wIn ∨ g.opened = true) → tDrop (tMeth T.C "tell" (spTell K T.C) [] E0 (tVar 0) (tCons (tVar 1) (tCons (tC (V.ref T.kBACK.a)) tNil))) { nx := fun _ H' => Q .non H', rt := Q } [some (.ref a.p), some (.str h)] H := fun h1 => by
        rw [if_neg h1] at k'
        refine ⟨_, rfl, a.p, a.dx, _, rfl, G.ob, rfl, _, rfl, a, g, h, T.kBACK.a, lBack, rfl, G, sq_kt T.kBACK _, ?_, fun H3 G3 f3 => ?_⟩
        · have := hl.go
          omega
        · exact k' a _ rfl G3 f3
      refine ⟨_, rfl, a.p, T.C, a.dx, _, _, rfl, G.ob, T.cl, T.n_mark, rfl, scal_oV g.mark (some "in"), _, rfl, ?_⟩
      by_cases hin : g.mark = some wIn
      · rw [decide_eq_true (show oV g.mark = V.str "in" by rw [hin]; rfl)]
        exact iteT (iteT (app (.inl hin)))
      · rw [decide_eq_false (show ¬ oV g.mark = V.str "in" from fun z => hin (oV_inj.mp (show oV g.mark = oV (some wIn) from z)))]
        refine iteF ?_
        refine ⟨_, rfl, a.p, T.C, a.dx, _, _, rfl, G.ob, T.cl, T.n_opened, rfl, _, rfl, ?_⟩
        cases ho : g.opened with
        | true => exact iteT (app (.inr ho))
        | false => exact iteF (tel fun z => z.elim hin fun z => by rw [ho] at z; cases z)
end
end Ha

/-! The guest's defs, eleventh part: hear, __init__, what it tells. -/
namespace Ha
open PySem PySem.Spec PyProof.Rows L2
section
variable {P : Program} {w : World} {K : PySem.W.Frag} {mg : Str → Option Value} {base : Heap}
def spHear (K : PySem.W.Frag) (C X : Addr) : Sp := fun vs H Q E => ∃ (a : GA) (g : G) (h : Str) (b : Addr) (l : List Str), vs = [.ref a.p, .str h, .ref b] ∧ Nm h ∧ H b = some (.tup (l.map V.str)) ∧ L7 l ∧ Deed K C X a g H (stepR g (.hear h l)) Q E
theorem eqv_tD (l m : List Str) : PyData.eqv (tD l) (tD m) = decide (l = m) := by
  have all : ∀ l m : List Str, PyData.eqvAll (l.map PyData.str) (m.map PyData.str) = decide (l = m) := by
    intro l
    induction l with
    | nil =>
      intro m
      cases m with
      | nil => simp [PyData.eqvAll]
      | cons y s => simp [PyData.eqvAll]
    | cons x r ih =>
      intro m
      cases m with
      | nil => simp [PyData.eqvAll]
      | cons y s =>
        rw [List.map_cons, List.map_cons]
        simp only [PyData.eqvAll, PyData.eqv]
        rw [ih s]
        by_cases h1 : x = y
        · by_cases h2 : r = s
          · simp [h1, h2]
          · simp [h1, h2]
        · have e : (x == y) = false := by simpa using h1
          simp [h1, e]
  simp only [tD, PyData.eqv]
  exact all l m
theorem shaped_L7 {l : List Str} (h : L7 l) : SeqAt.shaped (tD l) = true := by
  rcases h with rfl | rfl | rfl | rfl | rfl | rfl | rfl <;> decide +kernel
theorem fn_hear (T : Tx K mg) : FnOk P w K mg base (L2.CX P w) 8 T.d_hear.f T.d_hear.fd ["self", "house", "letter"] (spHear K T.C T.eNoLetter.C) := by
  have GN : FnOk P w K mg base CX0 1 T.d_is_name.f T.d_is_name.fd ["thing"] spIsName := fn_isName T
  have GI : FnOk P w K mg base CX0 1 T.d_is_letter.f T.d_is_letter.fd ["thing"] spIsLetter := fn_isLetter T
  have GW : FnOk P w K mg base (L2.CX P w) 7 T.d_hear_word.f T.d_hear_word.fd ["self", "house", "word"] (spHearWord K T.C T.eNoLetter.C) := fn_hearWord T
  have GO : FnOk P w K mg base (L2.CX P w) 7 T.d_hear_open.f T.d_hear_open.fd ["self", "house"] (spHearOpen K T.C T.eNoLetter.C) := fn_hearOpen T
  have GC : FnOk P w K mg base (L2.CX P w) 2 T.d_hear_chair.f T.d_hear_chair.fd ["self", "house"] (spHearChair K T.C T.eNoLetter.C) := fn_hearChair T
  have GA' : FnOk P w K mg base CX0 5 T.d_answered.f T.d_answered.fd ["self", "house"] (spAnswered K T.C) := fn_answered T
  have GG : FnOk P w K mg base CX0 1 T.d_gone.f T.d_gone.fd ["self"] (spGone K T.C) := ok_gone T
  refine T.d_hear.F.okX sc_hear (fun vs H Q E h => ?_) (fun cdv A outer s H vs Q E hr h => ?_)
  · obtain ⟨a, g, h, b, l, rfl, _⟩ := h
    rfl
  · obtain ⟨a, g, h, b, l, rfl, hn, hb, hL, G, ⟨ok, t, ht, hl⟩, kE, k⟩ := h
    have nd := sc_hear.nd
    have hu := hu_of hr
    have hr1 : Room 1 _ := hr.mono (by decide)
    have hr2 : Room 2 _ := hr.mono (by decide)
    have hr5 : Room 5 _ := hr.mono (by decide)
    have tk := takes_of (X := cxOf (L2.CX P w) P w K mg base n_hear "Guest.hear" (defScope s_hear) T.d_hear.f cdv A outer s H E) rfl rfl rfl rfl
    refine ⟨_, pss_cons (ps_if (PW.pt (pw_or (pt_not (pt_val (pe_call GN hr1 (by rfl) T.g_is_name T.d_is_name.F.kp T.d_is_name.b .nil pass0 (pa_cons (pv 1) pa_nil))))
        (pw_or (pt_cmp (pc_dnotin hu (pv 1) (pe_fld (pv 0) rfl)) (by rfl)) (pw_or1 (pt_not (pt_val (pe_call GI hr1 (by rfl) T.g_is_letter T.d_is_letter.F.kp T.d_is_letter.b .nil pass0 (pa_cons (pv 2) pa_nil))))))))
        (pss_one (ps_raise rfl (takes_of rfl rfl rfl rfl) (pmk_own PySem.F.excBase_ValueError T.eNoLetter.x T.eNoLetter.g T.eNoLetter.k (raises_own T.eNoLetter.b T.eNoLetter.t) rfl))) pss_nil)
      (pss_cons (ps_if (pt_cmpR op_eq (pe_ix ix_tup (pv 2) pe_int (fun _ _ => rfl)) (pe_gs T.gWORD) (nomark _))
        (pss_one (ps_expr (pe_meth (pv 0) T.cl T.m_hear_word GW hr T.d_hear_word.b .nil (passes_call tk (fun _ _ _ _ h => h)) (pa_cons (pv 1) (pa_cons (pe_ix ix_tup (pv 2) pe_int (fun _ _ => rfl)) pa_nil)))))
        (pss_one (ps_if (pt_cmpR (op_eqD hr.units) (pv 2) (pe_glob (v := .ref T.kOPEN.a) (by rfl) T.kOPEN.g rfl) (nomark _))
          (pss_one (ps_expr (pe_meth (pv 0) T.cl T.m_hear_open GO hr T.d_hear_open.b .nil (passes_call tk (fun _ _ _ _ h => h)) (pa_cons (pv 1) pa_nil))))
          (pss_one (ps_if (pt_cmpR (op_eqD hr.units) (pv 2) (pe_glob (v := .ref T.kHEARD.a) (by rfl) T.kHEARD.g rfl) (nomark _))
            (pss_cons (ps_if (pt_cmpR op_notIn_seq (pv 1) (pe_fld (pv 0) rfl) (by rfl))
              (pss_one (ps_raise rfl (takes_of rfl rfl rfl rfl) (pmk_own PySem.F.excBase_ValueError T.eNoLetter.x T.eNoLetter.g T.eNoLetter.k (raises_own T.eNoLetter.b T.eNoLetter.t) rfl))) pss_nil)
              (pss_one (ps_expr (pe_meth (pv 0) T.cl T.m_answered GA' hr5 T.d_answered.b .nil pass0 (pa_cons (pv 1) pa_nil)))))
            (pss_one (ps_if (pt_cmpR (op_eqD hr.units) (pv 2) (pe_glob (v := .ref T.kCHAIR.a) (by rfl) T.kCHAIR.g rfl) (nomark _))
              (pss_one (ps_expr (pe_meth (pv 0) T.cl T.m_hear_chair GC hr2 T.d_hear_chair.b .nil (passes_call tk (fun _ _ _ _ h => h)) (pa_cons (pv 1) pa_nil))))
              (pss_one (ps_raise rfl (takes_of rfl rfl rfl rfl) (pmk_own PySem.F.excBase_ValueError T.eNoLetter.x T.eNoLetter.g T.eNoLetter.k (raises_own T.eNoLetter.b T.eNoLetter.t) rfl))))))))))
      (pss_one (ps_ret (pe_meth0 (pv 0) T.cl T.m_gone GG hr1 T.d_gone.b .nil pass0)))), ?_⟩
    have es : stepR g (.hear h l) = stepH g h l := rfl
    rw [es] at kE k
    refine ⟨_, rfl, h, rfl, hn, fun H1 s1 => ⟨true, rfl, iteF ?_⟩⟩
    have G1 := G.same s1
    obtain ⟨kvs, hd, hp⟩ := id G1.nr
    refine ⟨_, rfl, _, rfl, a.p, T.C, a.dx, _, _, rfl, G1.ob, T.cl, T.n_near, rfl, a.near, _, rfl, DGet.k (k := Sum.inr h) hd, _, rfl, ?_⟩
    rw [near_some hp]
    by_cases m : h ∈ g.near.map (·.1)
    · have m' : ¬ h ∉ g.keys := fun z => z m
      rw [decide_eq_true m]
      refine iteF ?_
      have hb1 : H1 b = some (.tup (l.map V.str)) := s1 _ _ hb
      refine ⟨_, rfl, b, l, rfl, hb1, hL, fun H2 s2 => ⟨true, rfl, iteF ?_⟩⟩
      have s02 := s1.trans s2
      have G2 := G.same s02
      have f2 : Frm a.ft H a.ft H2 := Frm.same s02
      have hb2 : H2 b = some (.tup (l.map V.str)) := s2 _ _ hb1
      -- the letters are handed out
      have fin : ∀ g', stepH g h l = some g' → ∀ (c : GA) (H3 : Hp) (D : Ends), D.rt = Q → c.p = a.p → GuestAt K T.C H3 c g' → Frm a.ft H2 c.ft H3 → tRet (tMeth T.C "gone" (spGone K T.C) [] E0 (tVar 0) tNil) D [some (.ref a.p), some (.str h), some (.ref b)] H3 := by
        intro g' eg c H3 D eD ec G3 f3
        rw [← ec]
        refine ⟨_, rfl, c.p, c.dx, _, rfl, G3.ob, rfl, c, g', rfl, G3, ?_⟩
        rw [eD]
        exact told_of (k g' eg) ec G3 (f2.trans f3)
      have pre : preS g := ⟨ok, t, ht, hl⟩
      have no : ∀ x : Str, (∀ y, l ≠ lWord y) → l ≠ lOpen → l ≠ lHeard → l ≠ lChair → stepH g h l = none := fun _ h1 h2 h3 h4 => by
        unfold stepH
        rw [if_neg m', if_neg (fun z => z.elim (h1 _) (h1 _)), if_neg h2, if_neg h3, if_neg h4]
      rcases hL.len with ⟨e1, hl4⟩ | ⟨e2, x, rfl, hx⟩
      · have nw : ∀ y, l ≠ lWord y := fun y z => by rw [z] at e1; cases e1
        obtain ⟨l0, el⟩ : ∃ l0, l = [l0] := by
          cases l with
          | nil => cases e1
          | cons y r =>
            cases r with
            | nil => exact ⟨y, rfl⟩
            | cons _ _ => cases e1
        have nW : ¬ V.str l0 = V.str "word" := by
          rcases hl4 with rfl | rfl | rfl | rfl <;> (injection el with e5 _; rw [← e5]; decide +kernel)
        refine ⟨_, rfl, b, _, _, .str l0, rfl, rfl, SqT.of hb2, by rw [el]; rfl, rfl, _, rfl, ?_⟩
        rw [decide_eq_false nW]
        refine iteF ?_
        refine ⟨_, rfl, _, _, dp_tup (SqT.of hb2), dp_tup (T.kOPEN.q _), shaped_L7 hL, by decide +kernel, _, rfl, ?_⟩
        rw [eqv_tD, show ([("open" : Str)] : List Str) = lOpen from rfl]
        by_cases c1 : l = lOpen
        · rw [decide_eq_true c1]
          refine iteT ?_
          have est : stepH g h l = openO g h := by
            unfold stepH openO
            rw [if_neg m', if_neg (fun z => z.elim (nw _) (nw _)), if_pos c1]
          refine ⟨_, rfl, a.p, a.dx, _, rfl, G2.ob, rfl, _, rfl, a, g, h, rfl, hn, m, G2, pre, fun z H3 s3 => kE (est.trans z) H3 (s02.trans s3), fun g' eg c H3 ec G3 f3 => ?_⟩
          exact fin g' (est.trans eg) c H3 _ rfl ec G3 f3
        · rw [decide_eq_false c1]
          refine iteF ?_
          refine ⟨_, rfl, _, _, dp_tup (SqT.of hb2), dp_tup (T.kHEARD.q _), shaped_L7 hL, by decide +kernel, _, rfl, ?_⟩
          rw [eqv_tD, show ([("heard" : Str)] : List Str) = lHeard from rfl]
          by_cases c2 : l = lHeard
          · rw [decide_eq_true c2]
            refine iteT ?_
            have est : stepH g h l = if h ∈ g.waits then some (answered g h) else none := by
              unfold stepH
              rw [if_neg m', if_neg (fun z => z.elim (nw _) (nw _)), if_neg c1, if_pos c2]
            refine ⟨_, rfl, _, rfl, a.p, T.C, a.dx, _, _, rfl, G2.ob, T.cl, T.n_waits, rfl, a.waits, _, rfl, .inl (SqL.of G2.wt), rfl, flat_strs _, _, rfl, ?_⟩
            show (if (if true = true then !inV (.str h) (g.waits.map V.str) else _) = true then _ else _)
            rw [if_pos rfl, inV_strs]
            by_cases mw : h ∈ g.waits
            · rw [if_pos mw] at est
              rw [decide_eq_true mw]
              refine iteF ?_
              have hmk : g.mark = none := ok.op1 (ok.op2.mpr fun z => by rw [z] at mw; cases mw)
              refine ⟨_, rfl, a.p, a.dx, _, rfl, G2.ob, rfl, _, rfl, a, g, h, rfl, G2, hl.mono (by omega) (by decide) (by decide), hmk, ok.nW, fun c H3 ec G3 f3 => ?_⟩
              exact fin _ est c H3 _ rfl ec G3 f3
            · rw [if_neg mw] at est
              rw [decide_eq_false mw]
              exact iteT (kE est H2 s02)
          · rw [decide_eq_false c2]
            refine iteF ?_
            refine ⟨_, rfl, _, _, dp_tup (SqT.of hb2), dp_tup (T.kCHAIR.q _), shaped_L7 hL, by decide +kernel, _, rfl, ?_⟩
            rw [eqv_tD, show ([("chair" : Str)] : List Str) = lChair from rfl]
            by_cases c3 : l = lChair
            · rw [decide_eq_true c3]
              refine iteT ?_
              have est : stepH g h l = chairO g h := by
                unfold stepH chairO
                rw [if_neg m', if_neg (fun z => z.elim (nw _) (nw _)), if_neg c1, if_neg c2, if_pos c3]
              refine ⟨_, rfl, a.p, a.dx, _, rfl, G2.ob, rfl, _, rfl, a, g, h, rfl, G2, pre, fun z H3 s3 => kE (est.trans z) H3 (s02.trans s3), fun g' eg c H3 ec G3 f3 => ?_⟩
              exact fin g' (est.trans eg) c H3 _ rfl ec G3 f3
            · rw [decide_eq_false c3]
              exact iteF (kE (no "" nw c1 c2 c3) H2 s02)
      · refine ⟨_, rfl, b, _, _, _, rfl, rfl, SqT.of hb2, rfl, rfl, _, rfl, ?_⟩
        rw [decide_eq_true (by rfl)]
        refine iteT ?_
        have est : stepH g h (lWord x) = wordO g h x := by
          unfold stepH wordO
          rw [if_neg m']
          rcases hx with rfl | rfl | rfl
          · rw [if_pos (.inl rfl)]
            by_cases c : nearAt g.near h ≠ none ∨ h ∈ g.debts
            · rw [if_pos c, if_pos (.inr c)]
            · rw [if_neg c, if_neg (fun z => z.elim (fun z => z (.inl rfl)) c)]
              rfl
          · rw [if_pos (.inr rfl)]
            by_cases c : nearAt g.near h ≠ none ∨ h ∈ g.debts
            · rw [if_pos c, if_pos (.inr c)]
            · rw [if_neg c, if_neg (fun z => z.elim (fun z => z (.inr rfl)) c)]
              rfl
          · rw [if_neg (by decide +kernel), if_neg (by decide +kernel), if_neg (by decide +kernel), if_neg (by decide +kernel), if_pos (.inl (by decide +kernel))]
        refine ⟨_, rfl, a.p, a.dx, _, rfl, G2.ob, rfl, _, rfl, _, rfl, b, _, _, .str x, rfl, rfl, SqT.of hb2, rfl, a, g, h, x, rfl, hn, m, G2, pre, fun z H3 s3 => kE (est.trans z) H3 (s02.trans s3), fun g' eg c H3 ec G3 f3 => ?_⟩
        exact fin g' (est.trans eg) c H3 _ rfl ec G3 f3
    · rw [decide_eq_false m]
      exact iteT (iteT (kE (by unfold stepH; exact if_pos m) H1 s1))
end
end Ha

/-! The guest's defs, twelfth part: what it tells. Printed by gen12.py. -/
namespace Ha
open PySem PySem.Spec PyProof.Rows L2
def spL (K : PySem.W.Frag) (C : Addr) (f : G → List Str) : Sp := fun vs H Q _ => ∃ (a : GA) (g : G), vs = [.ref a.p] ∧ GuestAt K C H a g ∧ ∀ p, H p = none → Q (.ref p) (upd H p (.lst ((f g).map V.str)))
def spV (K : PySem.W.Frag) (C : Addr) (f : G → V) : Sp := fun vs H Q _ => ∃ (a : GA) (g : G), vs = [.ref a.p] ∧ GuestAt K C H a g ∧ Q (f g) H
def spTurns (K : PySem.W.Frag) (C : Addr) : Sp := fun vs H Q _ => ∃ (a : GA) (g : G), vs = [.ref a.p] ∧ GuestAt K C H a g ∧ ∀ p xs, H p = none → H a.past = some (.lst xs) → Paired (pastR H) g.past xs → Q (.ref p) (upd H p (.lst xs))
def heardV (g : G) (h : Str) : Option Str := (nearAt g.near h).map (·.1)
def aheadB (g : G) (h : Str) : Bool := match nearAt g.near h with
  | none => false
  | some (_, n) => decide (g.mark ≠ none) && decide (n ≤ g.since)
def spHeardOf (K : PySem.W.Frag) (C : Addr) : Sp := fun vs H Q _ => ∃ (a : GA) (g : G) (h : Str), vs = [.ref a.p, .str h] ∧ GuestAt K C H a g ∧ Nm h ∧ h ∈ g.keys ∧ ∀ H', Same H H' → Q (oV (heardV g h)) H'
def spIsAhead (K : PySem.W.Frag) (C : Addr) : Sp := fun vs H Q _ => ∃ (a : GA) (g : G) (h : Str), vs = [.ref a.p, .str h] ∧ GuestAt K C H a g ∧ Nm h ∧ h ∈ g.keys ∧ ∀ H', Same H H' → Q (.bl (aheadB g h)) H'
section
variable {P : Program} {w : World} {K : PySem.W.Frag} {mg : Str → Option Value} {base : Heap}
theorem fn_chairs (T : Tx K mg) : FnOk P w K mg base CX0 1 T.d_chairs.f T.d_chairs.fd ["self"] (spL K T.C fun g => srt g.seats) := by
  refine T.d_chairs.F.ok sc_chairs (fun vs H Q E h => ?_) (fun cdv A outer s H vs Q E hr h => ?_)
  · obtain ⟨a, g, rfl, _⟩ := h
    rfl
  · obtain ⟨a, g, rfl, G, k⟩ := h
    have nd := sc_chairs.nd
    refine ⟨_, pss_one (ps_ret (pe_callB cr_sortedSA (by rfl) T.b_sorted (by decide +kernel) (pa_cons (pe_fld (pv 0) rfl) pa_nil))), ?_⟩
    refine ⟨_, rfl, a.p, T.C, a.dx, _, _, rfl, G.ob, T.cl, T.n_seats, rfl, a.seats, g.seats, rfl, SqL.of G.st, fun ys p perm sorted hp => ?_⟩
    have ey : ys = srt g.seats := srt_of perm sorted
    subst ey
    exact k p hp
theorem fn_awaited (T : Tx K mg) : FnOk P w K mg base CX0 1 T.d_awaited.f T.d_awaited.fd ["self"] (spL K T.C fun g => srt g.waits) := by
  refine T.d_awaited.F.ok sc_awaited (fun vs H Q E h => ?_) (fun cdv A outer s H vs Q E hr h => ?_)
  · obtain ⟨a, g, rfl, _⟩ := h
    rfl
  · obtain ⟨a, g, rfl, G, k⟩ := h
    have nd := sc_awaited.nd
    refine ⟨_, pss_one (ps_ret (pe_callB cr_sortedSA (by rfl) T.b_sorted (by decide +kernel) (pa_cons (pe_fld (pv 0) rfl) pa_nil))), ?_⟩
    refine ⟨_, rfl, a.p, T.C, a.dx, _, _, rfl, G.ob, T.cl, T.n_waits, rfl, a.waits, g.waits, rfl, SqL.of G.wt, fun ys p perm sorted hp => ?_⟩
    have ey : ys = srt g.waits := srt_of perm sorted
    subst ey
    exact k p hp
theorem fn_owed (T : Tx K mg) : FnOk P w K mg base CX0 1 T.d_owed.f T.d_owed.fd ["self"] (spL K T.C fun g => srt g.debts) := by
  refine T.d_owed.F.ok sc_owed (fun vs H Q E h => ?_) (fun cdv A outer s H vs Q E hr h => ?_)
  · obtain ⟨a, g, rfl, _⟩ := h
    rfl
  · obtain ⟨a, g, rfl, G, k⟩ := h
    have nd := sc_owed.nd
    refine ⟨_, pss_one (ps_ret (pe_callB cr_sortedSA (by rfl) T.b_sorted (by decide +kernel) (pa_cons (pe_fld (pv 0) rfl) pa_nil))), ?_⟩
    refine ⟨_, rfl, a.p, T.C, a.dx, _, _, rfl, G.ob, T.cl, T.n_debts, rfl, a.debts, g.debts, rfl, SqL.of G.db, fun ys p perm sorted hp => ?_⟩
    have ey : ys = srt g.debts := srt_of perm sorted
    subst ey
    exact k p hp
theorem fn_houses (T : Tx K mg) : FnOk P w K mg base CX0 1 T.d_houses.f T.d_houses.fd ["self"] (spL K T.C fun g => srt g.keys) := by
  refine T.d_houses.F.ok sc_houses (fun vs H Q E h => ?_) (fun cdv A outer s H vs Q E hr h => ?_)
  · obtain ⟨a, g, rfl, _⟩ := h
    rfl
  · obtain ⟨a, g, rfl, G, k⟩ := h
    have nd := sc_houses.nd
    refine ⟨_, pss_one (ps_ret (pe_callB (cr_sortedDA rfl) (by rfl) T.b_sorted (by decide +kernel) (pa_cons (pe_fld (pv 0) rfl) pa_nil))), ?_⟩
    obtain ⟨kvs, hd, hp⟩ := id G.nr
    refine ⟨_, rfl, a.p, T.C, a.dx, _, _, rfl, G.ob, T.cl, T.n_near, rfl, a.near, kvs, g.keys, rfl, .inl hd, near_keys hp, fun ys p perm sorted hp => ?_⟩
    have ey : ys = srt g.keys := srt_of perm sorted
    subst ey
    exact k p hp
theorem fn_turns (T : Tx K mg) : FnOk P w K mg base CX0 1 T.d_turns.f T.d_turns.fd ["self"] (spTurns K T.C) := by
  refine T.d_turns.F.ok sc_turns (fun vs H Q E h => ?_) (fun cdv A outer s H vs Q E hr h => ?_)
  · obtain ⟨a, g, rfl, _⟩ := h
    rfl
  · obtain ⟨a, g, rfl, G, k⟩ := h
    have nd := sc_turns.nd
    refine ⟨_, pss_one (ps_ret (pe_callTy call_list_of (by rfl) T.b_list (by decide +kernel) (pa_cons (pe_fld (pv 0) rfl) pa_nil))), ?_⟩
    obtain ⟨xs, hd, hp⟩ := id G.pa
    exact ⟨_, rfl, a.p, T.C, a.dx, _, _, rfl, G.ob, T.cl, T.n_past, rfl, a.past, xs, rfl, .inl (SqL.of hd), fun l hl => k l xs hl hd hp⟩
theorem fn_wishes (T : Tx K mg) : FnOk P w K mg base CX0 1 T.d_wishes.f T.d_wishes.fd ["self"] (spV K T.C fun g => .bl g.wished) := by
  refine T.d_wishes.F.ok sc_wishes (fun vs H Q E h => ?_) (fun cdv A outer s H vs Q E hr h => ?_)
  · obtain ⟨a, g, rfl, _⟩ := h
    rfl
  · obtain ⟨a, g, rfl, G, k⟩ := h
    have nd := sc_wishes.nd
    refine ⟨_, pss_one (ps_ret (pe_fld (pv 0) rfl)), ?_⟩
    exact ⟨_, rfl, a.p, T.C, a.dx, _, _, rfl, G.ob, T.cl, T.n_wished, rfl, k⟩
theorem fn_is_open (T : Tx K mg) : FnOk P w K mg base CX0 1 T.d_is_open.f T.d_is_open.fd ["self"] (spV K T.C fun g => .bl g.opened) := by
  refine T.d_is_open.F.ok sc_is_open (fun vs H Q E h => ?_) (fun cdv A outer s H vs Q E hr h => ?_)
  · obtain ⟨a, g, rfl, _⟩ := h
    rfl
  · obtain ⟨a, g, rfl, G, k⟩ := h
    have nd := sc_is_open.nd
    refine ⟨_, pss_one (ps_ret (pe_fld (pv 0) rfl)), ?_⟩
    exact ⟨_, rfl, a.p, T.C, a.dx, _, _, rfl, G.ob, T.cl, T.n_opened, rfl, k⟩
theorem fn_word (T : Tx K mg) : FnOk P w K mg base CX0 1 T.d_word.f T.d_word.fd ["self"] (spV K T.C fun g => oV g.mark) := by
  refine T.d_word.F.ok sc_word (fun vs H Q E h => ?_) (fun cdv A outer s H vs Q E hr h => ?_)
  · obtain ⟨a, g, rfl, _⟩ := h
    rfl
  · obtain ⟨a, g, rfl, G, k⟩ := h
    have nd := sc_word.nd
    refine ⟨_, pss_one (ps_ret (pe_fld (pv 0) rfl)), ?_⟩
    exact ⟨_, rfl, a.p, T.C, a.dx, _, _, rfl, G.ob, T.cl, T.n_mark, rfl, k⟩
theorem fn_cause (T : Tx K mg) : FnOk P w K mg base CX0 1 T.d_cause.f T.d_cause.fd ["self"] (spV K T.C fun g => oV g.source) := by
  refine T.d_cause.F.ok sc_cause (fun vs H Q E h => ?_) (fun cdv A outer s H vs Q E hr h => ?_)
  · obtain ⟨a, g, rfl, _⟩ := h
    rfl
  · obtain ⟨a, g, rfl, G, k⟩ := h
    have nd := sc_cause.nd
    refine ⟨_, pss_one (ps_ret (pe_fld (pv 0) rfl)), ?_⟩
    exact ⟨_, rfl, a.p, T.C, a.dx, _, _, rfl, G.ob, T.cl, T.n_source, rfl, k⟩
theorem fn_heardOf (T : Tx K mg) : FnOk P w K mg base CX0 3 T.d_heard_of.f T.d_heard_of.fd ["self", "house"] (spHeardOf K T.C) := by
  have GN : FnOk P w K mg base (L2.CX P w) 2 T.d_need_near.f T.d_need_near.fd ["self", "house"] (spNeedNear K T.C T.eNoRoad.C) := fn_needNear T
  refine T.d_heard_of.F.ok sc_heard_of (fun vs H Q E h => ?_) (fun cdv A outer s H vs Q E hr h => ?_)
  · obtain ⟨a, g, h, rfl, _⟩ := h
    rfl
  · obtain ⟨a, g, h, rfl, G, hn, hk, k⟩ := h
    have nd := sc_heard_of.nd
    have hu := hu_of hr
    refine ⟨_, pss_cons (ps_expr (pe_meth (pv 0) T.cl T.m_need_near GN hr T.d_need_near.b .nil passL (pa_cons (pv 1) pa_nil)))
      (pss_cons (ps_set (i := 2) nd rfl (.inl rfl) (pe_dget hu (pe_fld (pv 0) rfl) (pv 1) (fun _ _ => rfl)))
      (pss_one (ps_ret (pe_ifExp (pt_cmp (pc_isN (pv 2))) pe_non (pe_ix ix_tup (pv 2) pe_int (fun _ _ => rfl)))))), ?_⟩
    refine ⟨_, rfl, a.p, a.dx, _, rfl, G.ob, rfl, _, rfl, a, g, h, rfl, G, hn, fun z => absurd hk z, fun _ H1 s1 => ?_⟩
    have G1 := G.same s1
    obtain ⟨kvs, hd, hp⟩ := id G1.nr
    obtain ⟨v, hv, tv⟩ := near_get hp hk
    refine ⟨_, rfl, a.p, T.C, a.dx, _, _, rfl, G1.ob, T.cl, T.n_near, rfl, _, rfl, a.near, v, rfl, DGet.k (k := Sum.inr h) hd |> (by rw [← hv]; exact ·), ?_⟩
    have k1 := k H1 s1
    unfold heardV at k1
    cases hna : nearAt g.near h with
    | none =>
      rw [hna] at tv k1
      cases tv
      exact ⟨_, rfl, true, rfl, iteT k1⟩
    | some t =>
      obtain ⟨wd, n⟩ := t
      rw [hna] at tv k1
      obtain ⟨b, rfl, hb⟩ := tv
      exact ⟨_, rfl, false, rfl, iteF ⟨_, rfl, b, _, _, .str wd, rfl, rfl, SqT.of hb, rfl, k1⟩⟩
theorem fn_isAhead (T : Tx K mg) : FnOk P w K mg base CX0 3 T.d_is_ahead.f T.d_is_ahead.fd ["self", "house"] (spIsAhead K T.C) := by
  have GN : FnOk P w K mg base (L2.CX P w) 2 T.d_need_near.f T.d_need_near.fd ["self", "house"] (spNeedNear K T.C T.eNoRoad.C) := fn_needNear T
  refine T.d_is_ahead.F.ok sc_is_ahead (fun vs H Q E h => ?_) (fun cdv A outer s H vs Q E hr h => ?_)
  · obtain ⟨a, g, h, rfl, _⟩ := h
    rfl
  · obtain ⟨a, g, h, rfl, G, hn, hk, k⟩ := h
    have nd := sc_is_ahead.nd
    have hu := hu_of hr
    refine ⟨_, pss_cons (ps_expr (pe_meth (pv 0) T.cl T.m_need_near GN hr T.d_need_near.b .nil passL (pa_cons (pv 1) pa_nil)))
      (pss_cons (ps_set (i := 2) nd rfl (.inl rfl) (pe_dget hu (pe_fld (pv 0) rfl) (pv 1) (fun _ _ => rfl)))
      (pss_one (ps_ret (pe_and (pe_cmp (pc_notN (pv 2)) rfl) (pe_and (pe_cmp (pc_notN (pe_fld (pv 0) rfl)) rfl) (pe_one (pe_cmpR op_le (pe_ix ix_tup (pv 2) pe_int (fun _ _ => rfl)) (pe_fld (pv 0) rfl) (nomark _)))))))), ?_⟩
    refine ⟨_, rfl, a.p, a.dx, _, rfl, G.ob, rfl, _, rfl, a, g, h, rfl, G, hn, fun z => absurd hk z, fun _ H1 s1 => ?_⟩
    have G1 := G.same s1
    obtain ⟨kvs, hd, hp⟩ := id G1.nr
    obtain ⟨v, hv, tv⟩ := near_get hp hk
    refine ⟨_, rfl, a.p, T.C, a.dx, _, _, rfl, G1.ob, T.cl, T.n_near, rfl, _, rfl, a.near, v, rfl, DGet.k (k := Sum.inr h) hd |> (by rw [← hv]; exact ·), ?_⟩
    have k1 := k H1 s1
    unfold aheadB at k1
    cases hna : nearAt g.near h with
    | none =>
      rw [hna] at tv k1
      cases tv
      exact ⟨_, rfl, false, rfl, k1⟩
    | some t =>
      obtain ⟨wd, n⟩ := t
      rw [hna] at tv k1
      obtain ⟨b, rfl, hb⟩ := tv
      refine ⟨_, rfl, true, rfl, ?_⟩
      refine ⟨_, rfl, a.p, T.C, a.dx, _, _, rfl, G1.ob, T.cl, T.n_mark, rfl, ?_⟩
      cases hm : g.mark with
      | none =>
        rw [hm] at k1
        exact ⟨false, rfl, k1⟩
      | some m =>
        rw [hm] at k1
        refine ⟨true, rfl, ?_⟩
        refine ⟨_, rfl, b, _, _, .int (n : Int), rfl, rfl, SqT.of hb, rfl, ?_⟩
        refine ⟨_, rfl, a.p, T.C, a.dx, _, _, rfl, G1.ob, T.cl, T.n_since, rfl, ?_⟩
        refine ⟨_, _, rfl, rfl, ?_⟩
        have e : decide ((n : Int) ≤ (g.since : Int)) = (decide ((some m : Option Str) ≠ none) && decide (n ≤ g.since)) := by
          rw [decide_eq_true (show (some m : Option Str) ≠ none from fun z => by cases z), Bool.true_and]
          by_cases c : n ≤ g.since
          · rw [decide_eq_true c, decide_eq_true (by omega)]
          · rw [decide_eq_false c, decide_eq_false (by omega)]
        show Q (.bl (decide ((n : Int) ≤ (g.since : Int)))) H1
        rw [e]
        exact k1
end
end Ha

/-! The guest's defs, thirteenth part: __init__. -/
namespace Ha
open PySem PySem.Spec PyProof.Rows L2
/-- a guest that is being made -/
def gS (n : Str) : G := { own := n, wished := false, near := [], ears := 0, mark := none, since := 0, opened := false, source := none, knows := [], waits := [], debts := [], seats := [], past := [], going := [] }
def g0 (n : Str) : G := look (gS n) none
structure Ini (H0 : Hp) (x C dx : Addr) (H : Hp) (fs : List (Str × V)) (ps : List (Addr × HO)) : Prop where
  ob : H x = some (.ins C dx fs)
  at' : ∀ q o, (q, o) ∈ ps → H q = some o
  nd : (x :: ps.map (·.1)).Nodup
  keep : ∀ b o, H0 b = some o → b ≠ x → H b = some o
  new : ∀ q ∈ ps.map (·.1), H0 q = none
section
variable {K : PySem.W.Frag} {H0 H : Hp} {x C dx : Addr} {fs : List (Str × V)} {ps : List (Addr × HO)}
theorem Ini.put (I : Ini H0 x C dx H fs ps) {f : Str} {y : V} : Ini H0 x C dx (upd H x (.ins C dx (putF f y fs))) (putF f y fs) ps :=
  ⟨upd_same, fun q o h => by
    have ne : q ≠ x := fun z => (List.nodup_cons.mp I.nd).1 (z ▸ List.mem_map.mpr ⟨_, h, rfl⟩)
    rw [upd_ne ne]
    exact I.at' q o h, I.nd, fun b o e h => by
    rw [upd_ne h]
    exact I.keep b o e h, I.new⟩
theorem Ini.add (I : Ini H0 x C dx H fs ps) {q : Addr} {o : HO} (hq : H q = none) : Ini H0 x C dx (upd H q o) fs (ps ++ [(q, o)]) := by
  have nx : x ≠ q := ne_of_none I.ob hq
  refine ⟨by rw [upd_ne nx]; exact I.ob, fun b u h => ?_, ?_, fun b u e h => ?_, fun b h => ?_⟩
  · rcases List.mem_append.mp h with h | h
    · have e := I.at' b u h
      rw [upd_ne (ne_of_none e hq)]
      exact e
    · cases List.mem_singleton.mp h
      exact upd_same
  · rw [List.map_append, ← List.cons_append, List.nodup_append]
    refine ⟨I.nd, by simp, fun b hb c hc => ?_⟩
    have ec : c = q := by simpa using hc
    rw [ec]
    rcases List.mem_cons.mp hb with e | hb
    · rw [e]
      exact nx
    · obtain ⟨⟨b', o'⟩, hb', rfl⟩ := List.mem_map.mp hb
      exact ne_of_none (I.at' _ _ hb') hq
  · have e2 := I.keep b u e h
    rw [upd_ne (ne_of_none e2 hq)]
    exact e2
  · rw [List.map_append] at h
    rcases List.mem_append.mp h with h | h
    · exact I.new b h
    · have eb : b = q := by simpa using h
      subst eb
      cases e : H0 b with
      | none => rfl
      | some o =>
        rw [I.keep b o e (Ne.symm nx)] at hq
        cases hq
theorem Ini.sto (I : Ini H0 x C dx H fs ps) {f : Str} {σ : L2.St} {i : Nat} {y : V} {R : L2.St → Hp → Prop} (c : Cls K C) (n : NoAttr K C f) (hl : fs.length < 1000)
    (k : ∀ H1, Ini H0 x C dx H1 (putF f y fs) ps → R σ H1) (hσ : σ[i]? = some (some (.ref x)) := by rfl) :
    tVar i σ H fun x H2 => ∃ b C' dx fs, x = .ref b ∧ H2 b = some (.ins C' dx fs) ∧ Cls K C' ∧ NoAttr K C' f ∧ fs.length < 1000 ∧ R σ (upd H2 b (.ins C' dx (putF f y fs))) :=
  ⟨_, hσ, x, C, dx, fs, rfl, I.ob, c, n, hl, k _ I.put⟩
theorem Ini.stoN (I : Ini H0 x C dx H fs ps) {f : Str} {σ : L2.St} {i : Nat} {q : Addr} {o : HO} {R : L2.St → Hp → Prop} (hq : H q = none) (c : Cls K C) (n : NoAttr K C f) (hl : fs.length < 1000)
    (k : ∀ H1, Ini H0 x C dx H1 (putF f (.ref q) fs) (ps ++ [(q, o)]) → R σ H1) (hσ : σ[i]? = some (some (.ref x)) := by rfl) :
    tVar i σ (upd H q o) fun x H2 => ∃ b C' dx fs, x = .ref b ∧ H2 b = some (.ins C' dx fs) ∧ Cls K C' ∧ NoAttr K C' f ∧ fs.length < 1000 ∧ R σ (upd H2 b (.ins C' dx (putF f (.ref q) fs))) :=
  (I.add (o := o) hq).sto c n hl k hσ
end
def spInit (K : PySem.W.Frag) (C : Addr) : Sp := fun vs H Q _ => ∃ (x dx : Addr) (n : Str), vs = [.ref x, .str n] ∧ Nm n ∧ H x = some (.ins C dx []) ∧ ∀ a H', a.p = x → GuestAt K C H' a (g0 n) → Frm [x] H a.ft H' → Q .non H'
section
variable {P : Program} {w : World} {K : PySem.W.Frag} {mg : Str → Option Value} {base : Heap}
theorem fn_init (T : Tx K mg) : FnOk P w K mg base CX0 7 T.d_init.f T.d_init.fd ["self", "name"] (spInit K T.C) := by
  have GN : FnOk P w K mg base CX0 1 T.d_is_name.f T.d_is_name.fd ["thing"] spIsName := fn_isName T
  have GL : FnOk P w K mg base CX0 6 T.d_look.f T.d_look.fd ["self", "house"] (spLookP K T.C preK) := fn_look T
  refine T.d_init.F.ok sc_init (fun vs H Q E h => ?_) (fun cdv A outer s H vs Q E hr h => ?_)
  · obtain ⟨x, dx, n, rfl, _⟩ := h
    rfl
  · obtain ⟨x, dx, n, rfl, hn, hx, k⟩ := h
    have nd := sc_init.nd
    have hr1 : Room 1 _ := hr.mono (by decide)
    refine ⟨_, pss_cons (ps_if (pt_not (pt_val (pe_call GN hr1 (by rfl) T.g_is_name T.d_is_name.F.kp T.d_is_name.b .nil pass0 (pa_cons (pv 1) pa_nil)))) (pss_one ps_never) pss_nil)
      (pss_cons (ps_fld (pv 0) (pv 1) rfl) (pss_cons (ps_fld (pv 0) pe_bl rfl) (pss_cons (ps_fld (pv 0) pe_dnewK rfl) (pss_cons (ps_fld (pv 0) pe_int rfl) (pss_cons (ps_fld (pv 0) pe_non rfl) (pss_cons (ps_fld (pv 0) pe_int rfl) (pss_cons (ps_fld (pv 0) pe_bl rfl) (pss_cons (ps_fld (pv 0) pe_non rfl)
      (pss_cons (ps_fld (pv 0) (pe_lst pa_nil) rfl) (pss_cons (ps_fld (pv 0) (pe_lst pa_nil) rfl) (pss_cons (ps_fld (pv 0) (pe_lst pa_nil) rfl) (pss_cons (ps_fld (pv 0) (pe_lst pa_nil) rfl) (pss_cons (ps_fld (pv 0) (pe_lst pa_nil) rfl) (pss_cons (ps_fld (pv 0) (pe_lst pa_nil) rfl)
      (pss_one (ps_expr (pe_meth (pv 0) T.cl T.m_look GL hr T.d_look.b .nil pass0 (pa_cons pe_non pa_nil)))))))))))))))))), ?_⟩
    refine ⟨_, rfl, n, rfl, hn, fun H1 s1 => ⟨true, rfl, iteF ?_⟩⟩
    have I0 : Ini H x T.C dx H1 [] [] := ⟨s1 _ _ hx, fun _ _ h => absurd h (by simp), by simp, fun b o e _ => s1 _ _ e, fun _ h => absurd h (by simp)⟩
    refine ⟨_, rfl, ?_⟩
    refine I0.sto T.cl T.n_own (by decide) fun H1 I1 => ?_
    refine rd_stoC ?_
    refine I1.sto T.cl T.n_wished (by show 1 < 1000; decide) fun H2 I2 => ?_
    intro q1 hq1
    refine I2.stoN hq1 T.cl T.n_near (by show 2 < 1000; decide) fun H3 I3 => ?_
    refine rd_stoC ?_
    refine I3.sto T.cl T.n_ears (by show 3 < 1000; decide) fun H4 I4 => ?_
    refine rd_stoC ?_
    refine I4.sto T.cl T.n_mark (by show 4 < 1000; decide) fun H5 I5 => ?_
    refine rd_stoC ?_
    refine I5.sto T.cl T.n_since (by show 5 < 1000; decide) fun H6 I6 => ?_
    refine rd_stoC ?_
    refine I6.sto T.cl T.n_opened (by show 6 < 1000; decide) fun H7 I7 => ?_
    refine rd_stoC ?_
    refine I7.sto T.cl T.n_source (by show 7 < 1000; decide) fun H8 I8 => ?_
    refine ⟨Nat.zero_le _, fun q2 hq2 => ?_⟩
    refine I8.stoN hq2 T.cl T.n_knows (by show 8 < 1000; decide) fun H9 I9 => ?_
    refine ⟨Nat.zero_le _, fun q3 hq3 => ?_⟩
    refine I9.stoN hq3 T.cl T.n_waits (by show 9 < 1000; decide) fun H10 I10 => ?_
    refine ⟨Nat.zero_le _, fun q4 hq4 => ?_⟩
    refine I10.stoN hq4 T.cl T.n_debts (by show 10 < 1000; decide) fun H11 I11 => ?_
    refine ⟨Nat.zero_le _, fun q5 hq5 => ?_⟩
    refine I11.stoN hq5 T.cl T.n_seats (by show 11 < 1000; decide) fun H12 I12 => ?_
    refine ⟨Nat.zero_le _, fun q6 hq6 => ?_⟩
    refine I12.stoN hq6 T.cl T.n_past (by show 12 < 1000; decide) fun H13 I13 => ?_
    refine ⟨Nat.zero_le _, fun q7 hq7 => ?_⟩
    refine I13.stoN hq7 T.cl T.n_going (by show 13 < 1000; decide) fun H14 I14 => ?_
    have G : GuestAt K T.C H14 ⟨x, dx, q1, q2, q3, q4, q5, q6, q7⟩ (gS n) :=
      { ob := I14.ob
        nr := ⟨[], I14.at' _ _ (by simp), .nil⟩
        kn := I14.at' q2 (.lst []) (by simp)
        wt := I14.at' q3 (.lst []) (by simp)
        db := I14.at' q4 (.lst []) (by simp)
        st := I14.at' q5 (.lst []) (by simp)
        pa := ⟨[], I14.at' _ _ (by simp), .nil⟩
        go := ⟨[], I14.at' _ _ (by simp), .nil⟩
        nd := I14.nd }
    have f : Frm [x] H (GA.ft ⟨x, dx, q1, q2, q3, q4, q5, q6, q7⟩) H14 := by
      refine ⟨fun b xs e => I14.keep b _ e fun z => ?_, fun b o e hb => I14.keep b o e fun z => hb (by rw [z]; simp), fun b hb => ?_⟩
      · rw [z, hx] at e
        cases e
      · rcases List.mem_cons.mp hb with e | hb
        · left
          rw [e]
          simp
        · exact .inr (I14.new b hb)
    refine ⟨_, rfl, x, dx, _, rfl, I14.ob, rfl, ⟨x, dx, q1, q2, q3, q4, q5, q6, q7⟩, gS n, none, rfl, G, ⟨Nat.zero_le _, Nat.zero_le _, Nat.zero_le _, Nat.zero_le _, Nat.zero_le _, Nat.zero_le _, Nat.zero_le _⟩, ⟨fun _ h => absurd h (by simp [gS]), by show 0 ≤ 50000; decide, by show 0 ≤ 20000; decide⟩, fun b H9 eb G9 f9 => ?_⟩
    exact k b H9 eb G9 (f.trans f9)
end
end Ha

/-! The law's own guest: a dict with text keys at a mirror state, and how statements move it. Printed by genmine.py. -/
namespace Ha
open PySem PySem.Spec PyProof.Rows L2
def mK (a : GA) (g : G) : List (Key × V) := [(Sum.inr "name", .str g.own), (Sum.inr "wish", .bl g.wished), (Sum.inr "heard", .ref a.near), (Sum.inr "count", .int (g.ears : Int)), (Sum.inr "word", oV g.mark), (Sum.inr "at", .int (g.since : Int)), (Sum.inr "open", .bl g.opened), (Sum.inr "why", oV g.source), (Sum.inr "sure", .ref a.knows), (Sum.inr "due", .ref a.waits), (Sum.inr "owe", .ref a.debts), (Sum.inr "seats", .ref a.seats), (Sum.inr "past", .ref a.past), (Sum.inr "out", .ref a.going)]
theorem mK_len (a : GA) (g : G) : (mK a g).length < sizeLine := by show 14 < sizeLine; decide
/-- the law's dict at a mirror state; sure stands in any order -/
structure MineAt (K : PySem.W.Frag) (H : Hp) (a : GA) (g : G) : Prop where
  ob : H a.p = some (.dK (mK a g))
  nr : DctR H a.near g.near
  kn : ∃ l : List Str, l.Perm g.knows ∧ H a.knows = some (.lst (l.map V.str))
  wt : H a.waits = some (.lst (g.waits.map V.str))
  db : H a.debts = some (.lst (g.debts.map V.str))
  st : H a.seats = some (.lst (g.seats.map V.str))
  pa : LstR pastR H a.past g.past
  go : LstR (goR K) H a.going g.going
  nd : a.ft.Nodup
section
variable {K : PySem.W.Frag} {H H' H0 : Hp} {a : GA} {g : G} {F : List Addr}
theorem MineAt.stay (M : MineAt K H a g) (h : ∀ b u, H b = some u → b ∈ a.ft → H' b = some u) (t : TStay H H') : MineAt K H' a g where
  ob := h _ _ M.ob (by simp [GA.ft])
  nr := M.nr.stay (fun u e => h _ u e (by simp [GA.ft])) t
  kn := M.kn.imp fun _ z => ⟨z.1, h _ _ z.2 (by simp [GA.ft])⟩
  wt := h _ _ M.wt (by simp [GA.ft])
  db := h _ _ M.db (by simp [GA.ft])
  st := h _ _ M.st (by simp [GA.ft])
  pa := M.pa.stay (fun u e => h _ u e (by simp [GA.ft])) fun _ _ q => q.stay t
  go := M.go.stay (fun u e => h _ u e (by simp [GA.ft])) fun _ _ q => q.stay t
  nd := M.nd
theorem MineAt.off {F F' : List Addr} (M : MineAt K H a g) (f : Frm F H F' H') (hd : ∀ b ∈ a.ft, b ∉ F) : MineAt K H' a g :=
  M.stay (fun b u e hb => f.keep b u e (hd b hb)) f.tup
theorem MineAt.dom (M : MineAt K H a g) : ∀ b ∈ a.ft, ∃ u, H b = some u ∧ noTup u := fun b hb => by
  simp only [GA.ft, List.mem_cons, List.not_mem_nil, or_false] at hb
  rcases hb with rfl | rfl | rfl | rfl | rfl | rfl | rfl | rfl
  · exact ⟨_, M.ob, trivial⟩
  · obtain ⟨x, e, _⟩ := M.nr
    exact ⟨_, e, trivial⟩
  · obtain ⟨x, _, e⟩ := M.kn
    exact ⟨_, e, trivial⟩
  · exact ⟨_, M.wt, trivial⟩
  · exact ⟨_, M.db, trivial⟩
  · exact ⟨_, M.st, trivial⟩
  · obtain ⟨x, e, _⟩ := M.pa
    exact ⟨_, e, trivial⟩
  · obtain ⟨x, e, _⟩ := M.go
    exact ⟨_, e, trivial⟩
theorem MineAt.notNew (M : MineAt K H a g) {q : Addr} (hq : H q = none) : q ∉ a.ft := fun z => by
  obtain ⟨u, e, _⟩ := M.dom q z
  rw [e] at hq
  cases hq
/-- the dict, and what moved since H0 -/
structure MS (K : PySem.W.Frag) (F : List Addr) (H0 H : Hp) (a : GA) (g : G) : Prop where
  m : MineAt K H a g
  f : Frm F H0 a.ft H
theorem MS.start (M : MineAt K H a g) : MS K a.ft H H a g := ⟨M, Frm.refl _ _⟩
theorem MS.same (M : MS K F H0 H a g) (h : ∀ b u, H b = some u → H' b = some u) : MS K F H0 H' a g := ⟨M.m.stay (fun b u e _ => h b u e) fun b xs e => h b _ e, M.f.trans (Frm.same h)⟩
theorem MS.new (M : MS K F H0 H a g) {q : Addr} {u : HO} (hq : H q = none) : MS K F H0 (upd H q u) a g := M.same fun b v e => by
  rw [upd_ne (ne_of_none e hq)]
  exact e
theorem MS.fresh (M : MS K F H0 H a g) {q : Addr} (hq : H q = none) : q ∈ F ∨ H0 q = none := by
  by_cases hF : q ∈ F
  · exact .inl hF
  · right
    cases e : H0 q with
    | none => rfl
    | some u =>
      rw [M.f.keep q u e hF] at hq
      cases hq
/-- another part's move leaves it -/
theorem MS.off {F1 F2 : List Addr} (M : MS K F H0 H a g) (f : Frm F1 H F2 H') (hd : ∀ b ∈ a.ft, b ∉ F1) (hF : ∀ b ∈ F1, b ∈ F ∨ H0 b = none) : MS K F H0 H' a g :=
  by
  refine ⟨M.m.off f hd, ⟨fun b xs e => f.tup b xs (M.f.tup b xs e), fun b u e hb => f.keep b u (M.f.keep b u e hb) fun z => ?_, fun b hb => M.f.sub b hb⟩⟩
  rcases hF b z with q | q
  · exact hb q
  · rw [e] at q
    cases q

theorem MineAt.get_name (M : MineAt K H a g) : DGet H a.p (.str "name") (some (.str g.own)) := by
  have e : valV (mK a g) (Sum.inr "name" : Key) = some (.str g.own) := by rfl
  have h := DGet.k (k := Sum.inr "name") M.ob
  rw [e] at h
  exact h
theorem MineAt.get_wish (M : MineAt K H a g) : DGet H a.p (.str "wish") (some (.bl g.wished)) := by
  have e : valV (mK a g) (Sum.inr "wish" : Key) = some (.bl g.wished) := by rfl
  have h := DGet.k (k := Sum.inr "wish") M.ob
  rw [e] at h
  exact h
theorem MineAt.get_heard (M : MineAt K H a g) : DGet H a.p (.str "heard") (some (.ref a.near)) := by
  have e : valV (mK a g) (Sum.inr "heard" : Key) = some (.ref a.near) := by rfl
  have h := DGet.k (k := Sum.inr "heard") M.ob
  rw [e] at h
  exact h
theorem MineAt.get_count (M : MineAt K H a g) : DGet H a.p (.str "count") (some (.int (g.ears : Int))) := by
  have e : valV (mK a g) (Sum.inr "count" : Key) = some (.int (g.ears : Int)) := by rfl
  have h := DGet.k (k := Sum.inr "count") M.ob
  rw [e] at h
  exact h
theorem MineAt.get_word (M : MineAt K H a g) : DGet H a.p (.str "word") (some (oV g.mark)) := by
  have e : valV (mK a g) (Sum.inr "word" : Key) = some (oV g.mark) := by rfl
  have h := DGet.k (k := Sum.inr "word") M.ob
  rw [e] at h
  exact h
theorem MineAt.get_at (M : MineAt K H a g) : DGet H a.p (.str "at") (some (.int (g.since : Int))) := by
  have e : valV (mK a g) (Sum.inr "at" : Key) = some (.int (g.since : Int)) := by rfl
  have h := DGet.k (k := Sum.inr "at") M.ob
  rw [e] at h
  exact h
theorem MineAt.get_open (M : MineAt K H a g) : DGet H a.p (.str "open") (some (.bl g.opened)) := by
  have e : valV (mK a g) (Sum.inr "open" : Key) = some (.bl g.opened) := by rfl
  have h := DGet.k (k := Sum.inr "open") M.ob
  rw [e] at h
  exact h
theorem MineAt.get_why (M : MineAt K H a g) : DGet H a.p (.str "why") (some (oV g.source)) := by
  have e : valV (mK a g) (Sum.inr "why" : Key) = some (oV g.source) := by rfl
  have h := DGet.k (k := Sum.inr "why") M.ob
  rw [e] at h
  exact h
theorem MineAt.get_sure (M : MineAt K H a g) : DGet H a.p (.str "sure") (some (.ref a.knows)) := by
  have e : valV (mK a g) (Sum.inr "sure" : Key) = some (.ref a.knows) := by rfl
  have h := DGet.k (k := Sum.inr "sure") M.ob
  rw [e] at h
  exact h
theorem MineAt.get_due (M : MineAt K H a g) : DGet H a.p (.str "due") (some (.ref a.waits)) := by
  have e : valV (mK a g) (Sum.inr "due" : Key) = some (.ref a.waits) := by rfl
  have h := DGet.k (k := Sum.inr "due") M.ob
  rw [e] at h
  exact h
theorem MineAt.get_owe (M : MineAt K H a g) : DGet H a.p (.str "owe") (some (.ref a.debts)) := by
  have e : valV (mK a g) (Sum.inr "owe" : Key) = some (.ref a.debts) := by rfl
  have h := DGet.k (k := Sum.inr "owe") M.ob
  rw [e] at h
  exact h
theorem MineAt.get_seats (M : MineAt K H a g) : DGet H a.p (.str "seats") (some (.ref a.seats)) := by
  have e : valV (mK a g) (Sum.inr "seats" : Key) = some (.ref a.seats) := by rfl
  have h := DGet.k (k := Sum.inr "seats") M.ob
  rw [e] at h
  exact h
theorem MineAt.get_past (M : MineAt K H a g) : DGet H a.p (.str "past") (some (.ref a.past)) := by
  have e : valV (mK a g) (Sum.inr "past" : Key) = some (.ref a.past) := by rfl
  have h := DGet.k (k := Sum.inr "past") M.ob
  rw [e] at h
  exact h
theorem MineAt.get_out (M : MineAt K H a g) : DGet H a.p (.str "out") (some (.ref a.going)) := by
  have e : valV (mK a g) (Sum.inr "out" : Key) = some (.ref a.going) := by rfl
  have h := DGet.k (k := Sum.inr "out") M.ob
  rw [e] at h
  exact h
/-- the dict's own entries -/
theorem MS.write (M : MS K F H0 H a g) {k : Str} {y : V} {g' : G} (e : putK (mK a g) (Sum.inr k : Key) y = mK a g') (hs : g'.near = g.near ∧ g'.knows = g.knows ∧ g'.waits = g.waits ∧ g'.debts = g.debts ∧ g'.seats = g.seats ∧ g'.past = g.past ∧ g'.going = g.going) :
    ∃ H', DPut H a.p (.str k) y H' ∧ MS K F H0 H' a g' ∧ ∀ b u, H b = some u → b ≠ a.p → H' b = some u := by
  refine ⟨_, DPut.k (k := Sum.inr k) M.m.ob (mK_len a g), ?_, fun b u z n => by rw [upd_ne n]; exact z⟩
  have fr : Frm a.ft H a.ft (upd H a.p (.dK (putK (mK a g) (Sum.inr k : Key) y))) := Frm.upd (by simp [GA.ft]) M.m.ob trivial
  have tt := fr.tup
  have nd := M.m.nd
  have kp : ∀ b u, H b = some u → b ∈ [a.near, a.knows, a.waits, a.debts, a.seats, a.past, a.going] → (upd H a.p (.dK (putK (mK a g) (Sum.inr k : Key) y))) b = some u := fun b u z hb => by
    have n1 : b ≠ a.p := fun n => (List.nodup_cons.mp nd).1 (n ▸ hb)
    rw [upd_ne n1]
    exact z
  obtain ⟨h1, h2, h3, h4, h5, h6, h7⟩ := hs
  refine ⟨
    { ob := by rw [upd_same, e]
      nr := by rw [h1]; exact M.m.nr.stay (fun u z => kp _ u z (by simp)) tt
      kn := by rw [h2]; exact M.m.kn.imp fun _ z => ⟨z.1, kp _ _ z.2 (by simp)⟩
      wt := by rw [h3]; exact kp _ _ M.m.wt (by simp)
      db := by rw [h4]; exact kp _ _ M.m.db (by simp)
      st := by rw [h5]; exact kp _ _ M.m.st (by simp)
      pa := by rw [h6]; exact M.m.pa.stay (fun u z => kp _ u z (by simp)) fun _ _ q => q.stay tt
      go := by rw [h7]; exact M.m.go.stay (fun u z => kp _ u z (by simp)) fun _ _ q => q.stay tt
      nd := nd }, M.f.trans fr⟩
theorem MS.put_wish (M : MS K F H0 H a g) (v : Bool) : ∃ H', DPut H a.p (.str "wish") (.bl v) H' ∧ MS K F H0 H' a { g with wished := v } ∧ ∀ b u, H b = some u → b ≠ a.p → H' b = some u :=
  M.write (by rfl) ⟨rfl, rfl, rfl, rfl, rfl, rfl, rfl⟩
theorem MS.put_count (M : MS K F H0 H a g) (v : Nat) : ∃ H', DPut H a.p (.str "count") (.int (v : Int)) H' ∧ MS K F H0 H' a { g with ears := v } ∧ ∀ b u, H b = some u → b ≠ a.p → H' b = some u :=
  M.write (by rfl) ⟨rfl, rfl, rfl, rfl, rfl, rfl, rfl⟩
theorem MS.put_word (M : MS K F H0 H a g) (v : Option Str) : ∃ H', DPut H a.p (.str "word") (oV v) H' ∧ MS K F H0 H' a { g with mark := v } ∧ ∀ b u, H b = some u → b ≠ a.p → H' b = some u :=
  M.write (by rfl) ⟨rfl, rfl, rfl, rfl, rfl, rfl, rfl⟩
theorem MS.put_at (M : MS K F H0 H a g) (v : Nat) : ∃ H', DPut H a.p (.str "at") (.int (v : Int)) H' ∧ MS K F H0 H' a { g with since := v } ∧ ∀ b u, H b = some u → b ≠ a.p → H' b = some u :=
  M.write (by rfl) ⟨rfl, rfl, rfl, rfl, rfl, rfl, rfl⟩
theorem MS.put_open (M : MS K F H0 H a g) (v : Bool) : ∃ H', DPut H a.p (.str "open") (.bl v) H' ∧ MS K F H0 H' a { g with opened := v } ∧ ∀ b u, H b = some u → b ≠ a.p → H' b = some u :=
  M.write (by rfl) ⟨rfl, rfl, rfl, rfl, rfl, rfl, rfl⟩
theorem MS.put_why (M : MS K F H0 H a g) (v : Option Str) : ∃ H', DPut H a.p (.str "why") (oV v) H' ∧ MS K F H0 H' a { g with source := v } ∧ ∀ b u, H b = some u → b ≠ a.p → H' b = some u :=
  M.write (by rfl) ⟨rfl, rfl, rfl, rfl, rfl, rfl, rfl⟩
/-- another list stands as sure -/
theorem MS.put_sure (M : MS K F H0 H a g) {q : Addr} {l ks : List Str} (hl : H q = some (.lst (l.map V.str))) (hp : l.Perm ks) (hn : q ∉ a.ft) (h0 : q ∈ F ∨ H0 q = none) : ∃ H', DPut H a.p (.str "sure") (.ref q) H' ∧ MS K F H0 H' { a with knows := q } { g with knows := ks } ∧ ∀ b u, H b = some u → b ≠ a.p → H' b = some u := by
  have e : putK (mK a g) (Sum.inr "sure" : Key) (.ref q) = mK { a with knows := q } { g with knows := ks } := by rfl
  have hd : DPut H a.p (.str "sure") (.ref q) (upd H a.p (.dK (mK { a with knows := q } { g with knows := ks }))) := by
    have h := DPut.k (k := Sum.inr "sure") (v := .ref q) M.m.ob (mK_len a g)
    rw [e] at h
    exact h
  refine ⟨_, hd, ?_, fun b u z n => by rw [upd_ne n]; exact z⟩
  have fr : Frm a.ft H a.ft (upd H a.p (.dK (mK { a with knows := q } { g with knows := ks }))) := Frm.upd (by simp [GA.ft]) M.m.ob trivial
  have tt := fr.tup
  have nd := M.m.nd
  have np : a.p ≠ q := fun z => hn (by rw [← z]; simp [GA.ft])
  have kp : ∀ b u, H b = some u → b ∈ [a.near, a.knows, a.waits, a.debts, a.seats, a.past, a.going] → (upd H a.p (.dK (mK { a with knows := q } { g with knows := ks }))) b = some u := fun b u z hb => by
    have n1 : b ≠ a.p := fun n => (List.nodup_cons.mp nd).1 (n ▸ hb)
    rw [upd_ne n1]
    exact z
  have nd' : ({ a with knows := q } : GA).ft.Nodup := by
    simp only [GA.ft, List.nodup_cons, List.mem_cons, List.not_mem_nil, or_false, not_or, not_false_eq_true, and_true, List.nodup_nil] at nd hn ⊢
    grind
  refine ⟨
    { ob := upd_same
      nr := M.m.nr.stay (fun u z => kp _ u z (by simp)) tt
      wt := kp _ _ M.m.wt (by simp)
      db := kp _ _ M.m.db (by simp)
      st := kp _ _ M.m.st (by simp)
      pa := M.m.pa.stay (fun u z => kp _ u z (by simp)) fun _ _ q => q.stay tt
      go := M.m.go.stay (fun u z => kp _ u z (by simp)) fun _ _ q => q.stay tt
      kn := ⟨l, hp, by rw [upd_ne (Ne.symm np)]; exact hl⟩
      nd := nd' }, ⟨fun b xs z => tt b xs (M.f.tup b xs z), fun b u z hb => fr.keep b u (M.f.keep b u z hb) (M.f.off z hb), fun b hb => ?_⟩⟩
  have hb2 : b ∈ a.ft ∨ b = q := by
    simp only [GA.ft, List.mem_cons, List.not_mem_nil, or_false] at hb ⊢
    grind
  rcases hb2 with z | z
  · exact M.f.sub b z
  · rw [z]
    exact h0
/-- another list stands as due -/
theorem MS.put_due (M : MS K F H0 H a g) {q : Addr} {l : List Str} (hl : H q = some (.lst (l.map V.str))) (hn : q ∉ a.ft) (h0 : q ∈ F ∨ H0 q = none) : ∃ H', DPut H a.p (.str "due") (.ref q) H' ∧ MS K F H0 H' { a with waits := q } { g with waits := l } ∧ ∀ b u, H b = some u → b ≠ a.p → H' b = some u := by
  have e : putK (mK a g) (Sum.inr "due" : Key) (.ref q) = mK { a with waits := q } { g with waits := l } := by rfl
  have hd : DPut H a.p (.str "due") (.ref q) (upd H a.p (.dK (mK { a with waits := q } { g with waits := l }))) := by
    have h := DPut.k (k := Sum.inr "due") (v := .ref q) M.m.ob (mK_len a g)
    rw [e] at h
    exact h
  refine ⟨_, hd, ?_, fun b u z n => by rw [upd_ne n]; exact z⟩
  have fr : Frm a.ft H a.ft (upd H a.p (.dK (mK { a with waits := q } { g with waits := l }))) := Frm.upd (by simp [GA.ft]) M.m.ob trivial
  have tt := fr.tup
  have nd := M.m.nd
  have np : a.p ≠ q := fun z => hn (by rw [← z]; simp [GA.ft])
  have kp : ∀ b u, H b = some u → b ∈ [a.near, a.knows, a.waits, a.debts, a.seats, a.past, a.going] → (upd H a.p (.dK (mK { a with waits := q } { g with waits := l }))) b = some u := fun b u z hb => by
    have n1 : b ≠ a.p := fun n => (List.nodup_cons.mp nd).1 (n ▸ hb)
    rw [upd_ne n1]
    exact z
  have nd' : ({ a with waits := q } : GA).ft.Nodup := by
    simp only [GA.ft, List.nodup_cons, List.mem_cons, List.not_mem_nil, or_false, not_or, not_false_eq_true, and_true, List.nodup_nil] at nd hn ⊢
    grind
  refine ⟨
    { ob := upd_same
      nr := M.m.nr.stay (fun u z => kp _ u z (by simp)) tt
      kn := M.m.kn.imp fun _ z => ⟨z.1, kp _ _ z.2 (by simp)⟩
      db := kp _ _ M.m.db (by simp)
      st := kp _ _ M.m.st (by simp)
      pa := M.m.pa.stay (fun u z => kp _ u z (by simp)) fun _ _ q => q.stay tt
      go := M.m.go.stay (fun u z => kp _ u z (by simp)) fun _ _ q => q.stay tt
      wt := by rw [upd_ne (Ne.symm np)]; exact hl
      nd := nd' }, ⟨fun b xs z => tt b xs (M.f.tup b xs z), fun b u z hb => fr.keep b u (M.f.keep b u z hb) (M.f.off z hb), fun b hb => ?_⟩⟩
  have hb2 : b ∈ a.ft ∨ b = q := by
    simp only [GA.ft, List.mem_cons, List.not_mem_nil, or_false] at hb ⊢
    grind
  rcases hb2 with z | z
  · exact M.f.sub b z
  · rw [z]
    exact h0
/-- another list stands as owe -/
theorem MS.put_owe (M : MS K F H0 H a g) {q : Addr} {l : List Str} (hl : H q = some (.lst (l.map V.str))) (hn : q ∉ a.ft) (h0 : q ∈ F ∨ H0 q = none) : ∃ H', DPut H a.p (.str "owe") (.ref q) H' ∧ MS K F H0 H' { a with debts := q } { g with debts := l } ∧ ∀ b u, H b = some u → b ≠ a.p → H' b = some u := by
  have e : putK (mK a g) (Sum.inr "owe" : Key) (.ref q) = mK { a with debts := q } { g with debts := l } := by rfl
  have hd : DPut H a.p (.str "owe") (.ref q) (upd H a.p (.dK (mK { a with debts := q } { g with debts := l }))) := by
    have h := DPut.k (k := Sum.inr "owe") (v := .ref q) M.m.ob (mK_len a g)
    rw [e] at h
    exact h
  refine ⟨_, hd, ?_, fun b u z n => by rw [upd_ne n]; exact z⟩
  have fr : Frm a.ft H a.ft (upd H a.p (.dK (mK { a with debts := q } { g with debts := l }))) := Frm.upd (by simp [GA.ft]) M.m.ob trivial
  have tt := fr.tup
  have nd := M.m.nd
  have np : a.p ≠ q := fun z => hn (by rw [← z]; simp [GA.ft])
  have kp : ∀ b u, H b = some u → b ∈ [a.near, a.knows, a.waits, a.debts, a.seats, a.past, a.going] → (upd H a.p (.dK (mK { a with debts := q } { g with debts := l }))) b = some u := fun b u z hb => by
    have n1 : b ≠ a.p := fun n => (List.nodup_cons.mp nd).1 (n ▸ hb)
    rw [upd_ne n1]
    exact z
  have nd' : ({ a with debts := q } : GA).ft.Nodup := by
    simp only [GA.ft, List.nodup_cons, List.mem_cons, List.not_mem_nil, or_false, not_or, not_false_eq_true, and_true, List.nodup_nil] at nd hn ⊢
    grind
  refine ⟨
    { ob := upd_same
      nr := M.m.nr.stay (fun u z => kp _ u z (by simp)) tt
      kn := M.m.kn.imp fun _ z => ⟨z.1, kp _ _ z.2 (by simp)⟩
      wt := kp _ _ M.m.wt (by simp)
      st := kp _ _ M.m.st (by simp)
      pa := M.m.pa.stay (fun u z => kp _ u z (by simp)) fun _ _ q => q.stay tt
      go := M.m.go.stay (fun u z => kp _ u z (by simp)) fun _ _ q => q.stay tt
      db := by rw [upd_ne (Ne.symm np)]; exact hl
      nd := nd' }, ⟨fun b xs z => tt b xs (M.f.tup b xs z), fun b u z hb => fr.keep b u (M.f.keep b u z hb) (M.f.off z hb), fun b hb => ?_⟩⟩
  have hb2 : b ∈ a.ft ∨ b = q := by
    simp only [GA.ft, List.mem_cons, List.not_mem_nil, or_false] at hb ⊢
    grind
  rcases hb2 with z | z
  · exact M.f.sub b z
  · rw [z]
    exact h0
/-- another list stands as seats -/
theorem MS.put_seats (M : MS K F H0 H a g) {q : Addr} {l : List Str} (hl : H q = some (.lst (l.map V.str))) (hn : q ∉ a.ft) (h0 : q ∈ F ∨ H0 q = none) : ∃ H', DPut H a.p (.str "seats") (.ref q) H' ∧ MS K F H0 H' { a with seats := q } { g with seats := l } ∧ ∀ b u, H b = some u → b ≠ a.p → H' b = some u := by
  have e : putK (mK a g) (Sum.inr "seats" : Key) (.ref q) = mK { a with seats := q } { g with seats := l } := by rfl
  have hd : DPut H a.p (.str "seats") (.ref q) (upd H a.p (.dK (mK { a with seats := q } { g with seats := l }))) := by
    have h := DPut.k (k := Sum.inr "seats") (v := .ref q) M.m.ob (mK_len a g)
    rw [e] at h
    exact h
  refine ⟨_, hd, ?_, fun b u z n => by rw [upd_ne n]; exact z⟩
  have fr : Frm a.ft H a.ft (upd H a.p (.dK (mK { a with seats := q } { g with seats := l }))) := Frm.upd (by simp [GA.ft]) M.m.ob trivial
  have tt := fr.tup
  have nd := M.m.nd
  have np : a.p ≠ q := fun z => hn (by rw [← z]; simp [GA.ft])
  have kp : ∀ b u, H b = some u → b ∈ [a.near, a.knows, a.waits, a.debts, a.seats, a.past, a.going] → (upd H a.p (.dK (mK { a with seats := q } { g with seats := l }))) b = some u := fun b u z hb => by
    have n1 : b ≠ a.p := fun n => (List.nodup_cons.mp nd).1 (n ▸ hb)
    rw [upd_ne n1]
    exact z
  have nd' : ({ a with seats := q } : GA).ft.Nodup := by
    simp only [GA.ft, List.nodup_cons, List.mem_cons, List.not_mem_nil, or_false, not_or, not_false_eq_true, and_true, List.nodup_nil] at nd hn ⊢
    grind
  refine ⟨
    { ob := upd_same
      nr := M.m.nr.stay (fun u z => kp _ u z (by simp)) tt
      kn := M.m.kn.imp fun _ z => ⟨z.1, kp _ _ z.2 (by simp)⟩
      wt := kp _ _ M.m.wt (by simp)
      db := kp _ _ M.m.db (by simp)
      pa := M.m.pa.stay (fun u z => kp _ u z (by simp)) fun _ _ q => q.stay tt
      go := M.m.go.stay (fun u z => kp _ u z (by simp)) fun _ _ q => q.stay tt
      st := by rw [upd_ne (Ne.symm np)]; exact hl
      nd := nd' }, ⟨fun b xs z => tt b xs (M.f.tup b xs z), fun b u z hb => fr.keep b u (M.f.keep b u z hb) (M.f.off z hb), fun b hb => ?_⟩⟩
  have hb2 : b ∈ a.ft ∨ b = q := by
    simp only [GA.ft, List.mem_cons, List.not_mem_nil, or_false] at hb ⊢
    grind
  rcases hb2 with z | z
  · exact M.f.sub b z
  · rw [z]
    exact h0
/-- another list stands as out -/
theorem MS.put_out (M : MS K F H0 H a g) {q : Addr} (hl : H q = some (.lst [])) (hn : q ∉ a.ft) (h0 : q ∈ F ∨ H0 q = none) : ∃ H', DPut H a.p (.str "out") (.ref q) H' ∧ MS K F H0 H' { a with going := q } { g with going := [] } ∧ ∀ b u, H b = some u → b ≠ a.p → H' b = some u := by
  have e : putK (mK a g) (Sum.inr "out" : Key) (.ref q) = mK { a with going := q } { g with going := [] } := by rfl
  have hd : DPut H a.p (.str "out") (.ref q) (upd H a.p (.dK (mK { a with going := q } { g with going := [] }))) := by
    have h := DPut.k (k := Sum.inr "out") (v := .ref q) M.m.ob (mK_len a g)
    rw [e] at h
    exact h
  refine ⟨_, hd, ?_, fun b u z n => by rw [upd_ne n]; exact z⟩
  have fr : Frm a.ft H a.ft (upd H a.p (.dK (mK { a with going := q } { g with going := [] }))) := Frm.upd (by simp [GA.ft]) M.m.ob trivial
  have tt := fr.tup
  have nd := M.m.nd
  have np : a.p ≠ q := fun z => hn (by rw [← z]; simp [GA.ft])
  have kp : ∀ b u, H b = some u → b ∈ [a.near, a.knows, a.waits, a.debts, a.seats, a.past, a.going] → (upd H a.p (.dK (mK { a with going := q } { g with going := [] }))) b = some u := fun b u z hb => by
    have n1 : b ≠ a.p := fun n => (List.nodup_cons.mp nd).1 (n ▸ hb)
    rw [upd_ne n1]
    exact z
  have nd' : ({ a with going := q } : GA).ft.Nodup := by
    simp only [GA.ft, List.nodup_cons, List.mem_cons, List.not_mem_nil, or_false, not_or, not_false_eq_true, and_true, List.nodup_nil] at nd hn ⊢
    grind
  refine ⟨
    { ob := upd_same
      nr := M.m.nr.stay (fun u z => kp _ u z (by simp)) tt
      kn := M.m.kn.imp fun _ z => ⟨z.1, kp _ _ z.2 (by simp)⟩
      wt := kp _ _ M.m.wt (by simp)
      db := kp _ _ M.m.db (by simp)
      st := kp _ _ M.m.st (by simp)
      pa := M.m.pa.stay (fun u z => kp _ u z (by simp)) fun _ _ q => q.stay tt
      go := ⟨[], by rw [upd_ne (Ne.symm np)]; exact hl, .nil⟩
      nd := nd' }, ⟨fun b xs z => tt b xs (M.f.tup b xs z), fun b u z hb => fr.keep b u (M.f.keep b u z hb) (M.f.off z hb), fun b hb => ?_⟩⟩
  have hb2 : b ∈ a.ft ∨ b = q := by
    simp only [GA.ft, List.mem_cons, List.not_mem_nil, or_false] at hb ⊢
    grind
  rcases hb2 with z | z
  · exact M.f.sub b z
  · rw [z]
    exact h0
/-- sure is changed in place -/
theorem MS.in_sure (M : MS K F H0 H a g) {l ks : List Str} (hp : l.Perm ks) : MS K F H0 (upd H a.knows (.lst (l.map V.str))) a { g with knows := ks } := by
  obtain ⟨_, _, oe⟩ := M.m.kn
  have f1 : Frm a.ft H a.ft (upd H a.knows (.lst (l.map V.str))) := Frm.upd (by simp [GA.ft]) oe trivial
  have tt := f1.tup
  have nd := M.m.nd
  have kp : ∀ b u, H b = some u → b ∈ a.p :: [a.near, a.waits, a.debts, a.seats, a.past, a.going] → (upd H a.knows (.lst (l.map V.str))) b = some u := fun b u e hb => by
    have n1 : b ≠ a.knows := fun z => by
      simp only [GA.ft, List.nodup_cons, List.mem_cons, List.not_mem_nil, or_false, not_or, not_false_eq_true, and_true, List.nodup_nil] at nd hb
      grind
    rw [upd_ne n1]
    exact e
  exact ⟨
    { ob := kp _ _ M.m.ob (by simp)
      nr := M.m.nr.stay (fun u z => kp _ u z (by simp)) tt
      wt := kp _ _ M.m.wt (by simp)
      db := kp _ _ M.m.db (by simp)
      st := kp _ _ M.m.st (by simp)
      pa := M.m.pa.stay (fun u z => kp _ u z (by simp)) fun _ _ q => q.stay tt
      go := M.m.go.stay (fun u z => kp _ u z (by simp)) fun _ _ q => q.stay tt
      kn := ⟨l, hp, upd_same⟩
      nd := nd }, M.f.trans f1⟩
/-- due is changed in place -/
theorem MS.in_due (M : MS K F H0 H a g) {l : List Str} : MS K F H0 (upd H a.waits (.lst (l.map V.str))) a { g with waits := l } := by
  have oe := M.m.wt
  have f1 : Frm a.ft H a.ft (upd H a.waits (.lst (l.map V.str))) := Frm.upd (by simp [GA.ft]) oe trivial
  have tt := f1.tup
  have nd := M.m.nd
  have kp : ∀ b u, H b = some u → b ∈ a.p :: [a.near, a.knows, a.debts, a.seats, a.past, a.going] → (upd H a.waits (.lst (l.map V.str))) b = some u := fun b u e hb => by
    have n1 : b ≠ a.waits := fun z => by
      simp only [GA.ft, List.nodup_cons, List.mem_cons, List.not_mem_nil, or_false, not_or, not_false_eq_true, and_true, List.nodup_nil] at nd hb
      grind
    rw [upd_ne n1]
    exact e
  exact ⟨
    { ob := kp _ _ M.m.ob (by simp)
      nr := M.m.nr.stay (fun u z => kp _ u z (by simp)) tt
      kn := M.m.kn.imp fun _ z => ⟨z.1, kp _ _ z.2 (by simp)⟩
      db := kp _ _ M.m.db (by simp)
      st := kp _ _ M.m.st (by simp)
      pa := M.m.pa.stay (fun u z => kp _ u z (by simp)) fun _ _ q => q.stay tt
      go := M.m.go.stay (fun u z => kp _ u z (by simp)) fun _ _ q => q.stay tt
      wt := upd_same
      nd := nd }, M.f.trans f1⟩
/-- owe is changed in place -/
theorem MS.in_owe (M : MS K F H0 H a g) {l : List Str} : MS K F H0 (upd H a.debts (.lst (l.map V.str))) a { g with debts := l } := by
  have oe := M.m.db
  have f1 : Frm a.ft H a.ft (upd H a.debts (.lst (l.map V.str))) := Frm.upd (by simp [GA.ft]) oe trivial
  have tt := f1.tup
  have nd := M.m.nd
  have kp : ∀ b u, H b = some u → b ∈ a.p :: [a.near, a.knows, a.waits, a.seats, a.past, a.going] → (upd H a.debts (.lst (l.map V.str))) b = some u := fun b u e hb => by
    have n1 : b ≠ a.debts := fun z => by
      simp only [GA.ft, List.nodup_cons, List.mem_cons, List.not_mem_nil, or_false, not_or, not_false_eq_true, and_true, List.nodup_nil] at nd hb
      grind
    rw [upd_ne n1]
    exact e
  exact ⟨
    { ob := kp _ _ M.m.ob (by simp)
      nr := M.m.nr.stay (fun u z => kp _ u z (by simp)) tt
      kn := M.m.kn.imp fun _ z => ⟨z.1, kp _ _ z.2 (by simp)⟩
      wt := kp _ _ M.m.wt (by simp)
      st := kp _ _ M.m.st (by simp)
      pa := M.m.pa.stay (fun u z => kp _ u z (by simp)) fun _ _ q => q.stay tt
      go := M.m.go.stay (fun u z => kp _ u z (by simp)) fun _ _ q => q.stay tt
      db := upd_same
      nd := nd }, M.f.trans f1⟩
/-- seats is changed in place -/
theorem MS.in_seats (M : MS K F H0 H a g) {l : List Str} : MS K F H0 (upd H a.seats (.lst (l.map V.str))) a { g with seats := l } := by
  have oe := M.m.st
  have f1 : Frm a.ft H a.ft (upd H a.seats (.lst (l.map V.str))) := Frm.upd (by simp [GA.ft]) oe trivial
  have tt := f1.tup
  have nd := M.m.nd
  have kp : ∀ b u, H b = some u → b ∈ a.p :: [a.near, a.knows, a.waits, a.debts, a.past, a.going] → (upd H a.seats (.lst (l.map V.str))) b = some u := fun b u e hb => by
    have n1 : b ≠ a.seats := fun z => by
      simp only [GA.ft, List.nodup_cons, List.mem_cons, List.not_mem_nil, or_false, not_or, not_false_eq_true, and_true, List.nodup_nil] at nd hb
      grind
    rw [upd_ne n1]
    exact e
  exact ⟨
    { ob := kp _ _ M.m.ob (by simp)
      nr := M.m.nr.stay (fun u z => kp _ u z (by simp)) tt
      kn := M.m.kn.imp fun _ z => ⟨z.1, kp _ _ z.2 (by simp)⟩
      wt := kp _ _ M.m.wt (by simp)
      db := kp _ _ M.m.db (by simp)
      pa := M.m.pa.stay (fun u z => kp _ u z (by simp)) fun _ _ q => q.stay tt
      go := M.m.go.stay (fun u z => kp _ u z (by simp)) fun _ _ q => q.stay tt
      st := upd_same
      nd := nd }, M.f.trans f1⟩
/-- out is changed in place -/
theorem MS.in_out (M : MS K F H0 H a g) {l : List (Str × List Str)} {xs : List V} (hx : Paired (goR K H) l xs) : MS K F H0 (upd H a.going (.lst xs)) a { g with going := l } := by
  obtain ⟨ys, oe, _⟩ := id M.m.go
  have f1 : Frm a.ft H a.ft (upd H a.going (.lst xs)) := Frm.upd (by simp [GA.ft]) oe trivial
  have tt := f1.tup
  have nd := M.m.nd
  have kp : ∀ b u, H b = some u → b ∈ a.p :: [a.near, a.knows, a.waits, a.debts, a.seats, a.past] → (upd H a.going (.lst xs)) b = some u := fun b u e hb => by
    have n1 : b ≠ a.going := fun z => by
      simp only [GA.ft, List.nodup_cons, List.mem_cons, List.not_mem_nil, or_false, not_or, not_false_eq_true, and_true, List.nodup_nil] at nd hb
      grind
    rw [upd_ne n1]
    exact e
  exact ⟨
    { ob := kp _ _ M.m.ob (by simp)
      nr := M.m.nr.stay (fun u z => kp _ u z (by simp)) tt
      kn := M.m.kn.imp fun _ z => ⟨z.1, kp _ _ z.2 (by simp)⟩
      wt := kp _ _ M.m.wt (by simp)
      db := kp _ _ M.m.db (by simp)
      st := kp _ _ M.m.st (by simp)
      pa := M.m.pa.stay (fun u z => kp _ u z (by simp)) fun _ _ q => q.stay tt
      go := ⟨xs, upd_same, Paired.mapP hx fun _ _ q => q.stay tt⟩
      nd := nd }, M.f.trans f1⟩
/-- past is changed in place -/
theorem MS.in_past (M : MS K F H0 H a g) {l : List (Option Str × Option Str)} {xs : List V} (hx : Paired (pastR H) l xs) : MS K F H0 (upd H a.past (.lst xs)) a { g with past := l } := by
  obtain ⟨ys, oe, _⟩ := id M.m.pa
  have f1 : Frm a.ft H a.ft (upd H a.past (.lst xs)) := Frm.upd (by simp [GA.ft]) oe trivial
  have tt := f1.tup
  have nd := M.m.nd
  have kp : ∀ b u, H b = some u → b ∈ a.p :: [a.near, a.knows, a.waits, a.debts, a.seats, a.going] → (upd H a.past (.lst xs)) b = some u := fun b u e hb => by
    have n1 : b ≠ a.past := fun z => by
      simp only [GA.ft, List.nodup_cons, List.mem_cons, List.not_mem_nil, or_false, not_or, not_false_eq_true, and_true, List.nodup_nil] at nd hb
      grind
    rw [upd_ne n1]
    exact e
  exact ⟨
    { ob := kp _ _ M.m.ob (by simp)
      nr := M.m.nr.stay (fun u z => kp _ u z (by simp)) tt
      kn := M.m.kn.imp fun _ z => ⟨z.1, kp _ _ z.2 (by simp)⟩
      wt := kp _ _ M.m.wt (by simp)
      db := kp _ _ M.m.db (by simp)
      st := kp _ _ M.m.st (by simp)
      go := M.m.go.stay (fun u z => kp _ u z (by simp)) fun _ _ q => q.stay tt
      pa := ⟨xs, upd_same, Paired.mapP hx fun _ _ q => q.stay tt⟩
      nd := nd }, M.f.trans f1⟩
/-- heard is changed in place -/
theorem MS.in_heard (M : MS K F H0 H a g) {l : List (Str × Option (Str × Nat))} {xs : List (Key × V)} (hx : Paired (nearR H) l xs) : MS K F H0 (upd H a.near (.dK xs)) a { g with near := l } := by
  obtain ⟨ys, oe, _⟩ := id M.m.nr
  have f1 : Frm a.ft H a.ft (upd H a.near (.dK xs)) := Frm.upd (by simp [GA.ft]) oe trivial
  have tt := f1.tup
  have nd := M.m.nd
  have kp : ∀ b u, H b = some u → b ∈ a.p :: [a.knows, a.waits, a.debts, a.seats, a.past, a.going] → (upd H a.near (.dK xs)) b = some u := fun b u e hb => by
    have n1 : b ≠ a.near := fun z => by
      simp only [GA.ft, List.nodup_cons, List.mem_cons, List.not_mem_nil, or_false, not_or, not_false_eq_true, and_true, List.nodup_nil] at nd hb
      grind
    rw [upd_ne n1]
    exact e
  exact ⟨
    { ob := kp _ _ M.m.ob (by simp)
      kn := M.m.kn.imp fun _ z => ⟨z.1, kp _ _ z.2 (by simp)⟩
      wt := kp _ _ M.m.wt (by simp)
      db := kp _ _ M.m.db (by simp)
      st := kp _ _ M.m.st (by simp)
      pa := M.m.pa.stay (fun u z => kp _ u z (by simp)) fun _ _ q => q.stay tt
      go := M.m.go.stay (fun u z => kp _ u z (by simp)) fun _ _ q => q.stay tt
      nr := ⟨xs, upd_same, Paired.mapP hx fun _ _ q => q.stay tt⟩
      nd := nd }, M.f.trans f1⟩
end
end Ha

/-! The law's own defs, first part: what is given by a wish and what was heard. -/
namespace Ha
open PySem PySem.Spec PyProof.Rows L2
/-! ### plain -/
def rowsOf (near : List (Str × Option (Str × Nat))) : List (Str × Nat) := near.filterMap (·.2)
def someOf (near : List (Str × Option (Str × Nat))) (u : Nat) : List Str := ((rowsOf near).filter fun p => decide (p.2 ≤ u)).map (·.1)
def givenM (wished : Bool) (near : List (Str × Option (Str × Nat))) (u : Nat) : Option Str :=
  if wBarred ∈ someOf near u ∨ wished = false then some wOut else if (someOf near u).countP (fun x => decide (x = wClear)) = near.length then some wIn else none
theorem near_at {l : List (Str × Option (Str × Nat))} (nd : (l.map (·.1)).Nodup) : ∀ p ∈ l, nearAt l p.1 = p.2 := by
  induction l with
  | nil => exact fun p h => absurd h (by simp)
  | cons q r ih =>
    intro p hp
    rw [List.map_cons, List.nodup_cons] at nd
    show (if q.1 = p.1 then q.2 else nearAt r p.1) = p.2
    rcases List.mem_cons.mp hp with e | hp
    · rw [e, if_pos rfl]
    · have ne : ¬ q.1 = p.1 := fun z => nd.1 (z ▸ List.mem_map.mpr ⟨p, hp, rfl⟩)
      rw [if_neg ne]
      exact ih nd.2 p hp
/-- the words in the dict's own order -/
theorem words_perm {g : G} (ah : Bool) (nd : g.keys.Nodup) : (words g ah).Perm (g.near.map fun p => tellW ah g.since p.2) := by
  unfold words
  have h1 := (srt_perm g.keys).map fun h => tellW ah g.since (nearAt g.near h)
  have h2 : (g.keys.map fun h => tellW ah g.since (nearAt g.near h)) = g.near.map fun p => tellW ah g.since p.2 := by
    unfold G.keys
    rw [List.map_map]
    refine List.map_congr_left fun p hp => ?_
    show tellW ah g.since (nearAt g.near p.1) = _
    rw [near_at nd p hp]
  rw [← h2]
  exact h1
theorem some_mem {near : List (Str × Option (Str × Nat))} {ah : Bool} {s u : Nat} (hu : ∀ p ∈ near, ∀ w n, p.2 = some (w, n) → ((!ah || decide (n ≤ s)) = true ↔ n ≤ u)) (x : Str) :
    some x ∈ (near.map fun p => tellW ah s p.2) ↔ x ∈ someOf near u := by
  unfold someOf rowsOf
  constructor
  · intro h
    obtain ⟨p, hp, e⟩ := List.mem_map.mp h
    obtain ⟨k, t⟩ := p
    cases t with
    | none => cases e
    | some z =>
      obtain ⟨w, n⟩ := z
      have e' : (if (!ah || decide (n ≤ s)) = true then some w else none) = some x := e
      have hh := hu _ hp w n rfl
      split at e'
      · rename_i c
        cases e'
        exact List.mem_map.mpr ⟨(x, n), List.mem_filter.mpr ⟨List.mem_filterMap.mpr ⟨_, hp, rfl⟩, decide_eq_true (hh.mp c)⟩, rfl⟩
      · cases e'
  · intro h
    obtain ⟨⟨w, n⟩, hw, ex⟩ := List.mem_map.mp h
    obtain rfl : x = w := ex.symm
    obtain ⟨h1, h2⟩ := List.mem_filter.mp hw
    obtain ⟨⟨k, t⟩, hp, e⟩ := List.mem_filterMap.mp h1
    have e' : t = some (x, n) := e
    subst e'
    have hh := hu _ hp x n rfl
    refine List.mem_map.mpr ⟨_, hp, ?_⟩
    show (if (!ah || decide (n ≤ s)) = true then some x else none) = some x
    rw [if_pos (hh.mpr (of_decide_eq_true h2))]
theorem some_count {ah : Bool} {s u : Nat} (x : Str) : ∀ {near : List (Str × Option (Str × Nat))}, (∀ p ∈ near, ∀ w n, p.2 = some (w, n) → ((!ah || decide (n ≤ s)) = true ↔ n ≤ u)) →
    (near.map fun p => tellW ah s p.2).countP (fun o => decide (o = some x)) = (someOf near u).countP fun y => decide (y = x)
  | [], _ => rfl
  | (k, t) :: r, hu => by
    have ih := some_count (near := r) x fun p hp => hu p (List.mem_cons_of_mem _ hp)
    cases t with
    | none =>
      rw [List.map_cons, List.countP_cons_of_neg (by show ¬ decide ((none : Option Str) = some x) = true; simp), ih]
      rfl
    | some z =>
      obtain ⟨w, n⟩ := z
      have hh := hu _ List.mem_cons_self w n rfl
      have e1 : tellW ah s (some (w, n)) = if (!ah || decide (n ≤ s)) = true then some w else none := rfl
      by_cases c : n ≤ u
      · have e2 : someOf ((k, some (w, n)) :: r) u = w :: someOf r u := by
          unfold someOf rowsOf
          rw [List.filterMap_cons_some (show (fun x : Str × Option (Str × Nat) => x.2) (k, some (w, n)) = some (w, n) from rfl), List.filter_cons_of_pos (by simpa using c)]
          rfl
        rw [List.map_cons, e2, List.countP_cons, List.countP_cons, ih]
        show _ + (if decide (tellW ah s (some (w, n)) = some x) = true then 1 else 0) = _
        rw [e1, if_pos (hh.mpr c)]
        by_cases d : w = x
        · rw [d]
          simp
        · rw [decide_eq_false (show ¬ some w = some x from fun z => d (Option.some.inj z)), decide_eq_false d]
      · have e2 : someOf ((k, some (w, n)) :: r) u = someOf r u := by
          unfold someOf rowsOf
          rw [List.filterMap_cons_some (show (fun x : Str × Option (Str × Nat) => x.2) (k, some (w, n)) = some (w, n) from rfl), List.filter_cons_of_neg (by simpa using c)]
        rw [List.map_cons, e2, ← ih, List.countP_cons_of_neg]
        show ¬ decide (tellW ah s (some (w, n)) = some x) = true
        rw [e1, if_neg (fun z => c (hh.mp z))]
        simp
theorem given_eq {g : G} {ah : Bool} {u : Nat} (nd : g.keys.Nodup) (hu : ∀ p ∈ g.near, ∀ w n, p.2 = some (w, n) → ((!ah || decide (n ≤ g.since)) = true ↔ n ≤ u)) : given g ah = givenM g.wished g.near u := by
  have hp := words_perm ah nd
  have h1 : some wBarred ∈ words g ah ↔ wBarred ∈ someOf g.near u := by rw [hp.mem_iff]; exact some_mem hu _
  have h2 : (words g ah).countP (fun o => decide (o = some wClear)) = (someOf g.near u).countP fun y => decide (y = wClear) := by
    rw [hp.countP_eq]
    exact some_count _ hu
  unfold given givenW givenM
  rw [h2, words_len]
  by_cases c : wBarred ∈ someOf g.near u ∨ g.wished = false
  · rw [if_pos c, if_pos (c.elim (fun z => .inr (h1.mpr z)) .inl)]
  · rw [if_neg c, if_neg fun z => c (z.elim .inr fun z => .inl (h1.mp z))]
theorem given_false {g : G} (b : Base g) : given g false = givenM g.wished g.near g.ears := given_eq b.nd fun p hp w n e => ⟨fun _ => (b.num p hp w n e).1, fun _ => rfl⟩
theorem given_true {g : G} (b : Base g) : given g true = givenM g.wished g.near g.since := given_eq b.nd fun p hp w n e => by simp
/-! ### the rows in the heap -/
def nonV (v : V) : Bool := !decide (v = .non)
def rowR (H : Hp) (p : Str × Nat) (v : V) : Prop := ∃ a, v = .ref a ∧ H a = some (.tup [.str p.1, .int (p.2 : Int)])
theorem rows_paired {H : Hp} : ∀ {l : List (Str × Option (Str × Nat))} {kvs : List (Key × V)}, Paired (nearR H) l kvs → Paired (rowR H) (rowsOf l) ((kvs.map (·.2)).filter nonV)
  | _, _, .nil => .nil
  | _, _, .cons (a := p) (b := kv) r q => by
    have ih := rows_paired q
    obtain ⟨k, t⟩ := p
    obtain ⟨_, h⟩ := r
    unfold rowsOf at ih ⊢
    cases t with
    | none =>
      have h' : kv.2 = .non := h
      rw [List.map_cons, List.filter_cons_of_neg (by rw [h']; simp [nonV])]
      exact ih
    | some z =>
      obtain ⟨w, n⟩ := z
      obtain ⟨a, h1, h2⟩ := h
      have h1' : kv.2 = .ref a := h1
      rw [List.map_cons, List.filter_cons_of_pos (by rw [h1']; simp [nonV])]
      exact .cons ⟨a, h1', h2⟩ ih
theorem rowR.stay {H H' : Hp} (t : TStay H H') {p : Str × Nat} {v : V} (h : rowR H p v) : rowR H' p v := by
  obtain ⟨a, e1, e2⟩ := h
  exact ⟨a, e1, t _ _ e2⟩
theorem paired_at {α β : Type} {R : α → β → Prop} : ∀ {l : List α} {xs : List β}, Paired R l xs → ∀ {i : Nat} {x : β}, xs[i]? = some x → ∃ y, l[i]? = some y ∧ R y x
  | _, _, .nil, i, x, h => by cases i <;> cases h
  | _, _, .cons (a := a) r q, 0, x, h => by
    cases h
    exact ⟨a, rfl, r⟩
  | _, _, .cons r q, i + 1, x, h => paired_at q h
end Ha

/-! The law's own defs, second part: _law_given. -/
namespace Ha
open PySem PySem.Spec PyProof.Rows L2
def spLGiven (K : PySem.W.Frag) : Sp := fun vs H Q _ => ∃ (a : GA) (g : G) (u : Nat), vs = [.ref a.p, .int (u : Int)] ∧ MineAt K H a g ∧ g.near.length ≤ 100000 ∧ ∀ H', Same H H' → Q (oV (givenM g.wished g.near u)) H'
theorem count_sD (x : Str) : ∀ l : List Str, (l.map PyData.str).countP (fun z => PyData.eqv z (.str x)) = l.countP fun y => decide (y = x)
  | [] => rfl
  | y :: r => by
    rw [List.map_cons, List.countP_cons, List.countP_cons, count_sD x r]
    have e : PyData.eqv (.str y) (.str x) = decide (y = x) := by
      by_cases h : y = x
      · simp [PyData.eqv, h]
      · simp [PyData.eqv, h]
    rw [e]
section
variable {P : Program} {w : World} {K : PySem.W.Frag} {mg : Str → Option Value} {base : Heap}
theorem fn_lGiven (T : Tx K mg) : FnOk P w K mg base CX0 1 T.d_l_given.f T.d_l_given.fd ["_law_mine", "_law_upto"] (spLGiven K) := by
  refine T.d_l_given.F.ok sc_l_given (fun vs H Q E h => ?_) (fun cdv A outer s H vs Q E hr h => ?_)
  · obtain ⟨a, g, u, rfl, _⟩ := h
    rfl
  · obtain ⟨a, g, u, rfl, M, hl, k⟩ := h
    have nd := sc_l_given.nd
    have hu : (A.deeper (envOfC "_law_given" (defScope s_l_given) s.heap.objs.size T.d_l_given.f cdv)).units + 65 < cLine := by have := hr.un; omega
    have hu1 := hu_of hr
    refine ⟨_, pss_cons (ps_setLc (i := 2) (own := [("_law_told", 4)]) (g := gName 4) (by rfl) nd rfl rfl (sw_true rfl rfl rfl (by decide +kernel)) (pi_list (pe_listVals rfl (pe_dget hu1 (pv 0) pe_str (fun _ _ => rfl)) (by rfl) T.b_list (by decide +kernel))) (blkOk_by (own := [("_law_told", 4)]) (N := n_l_given) (sc := defScope s_l_given) (by decide +kernel))
        (fun _ _ _ _ _ => pg_name (i := 4) nd rfl (Or.inl rfl)) (fun _ _ _ _ _ => pts_one (pt_cmp (pc_notN (pv 4)))) (fun _ _ _ _ _ => pv 4))
      (pss_cons (ps_setLc (i := 3) (own := [("_law_word", 5), ("_law_number", 6)]) (g := gTup K 2 (gCons (gName 5) (gCons (gName 6) gNil))) (by rfl) nd rfl rfl (sw_true rfl rfl rfl (by decide +kernel)) (pi_list (pv 2)) (blkOk_by (own := [("_law_word", 5), ("_law_number", 6)]) (N := n_l_given) (sc := defScope s_l_given) (by decide +kernel))
        (fun _ _ _ _ _ => pg_tup rfl (pgs_cons (pg_name (i := 5) nd rfl (Or.inl rfl)) (pgs_cons (pg_name (i := 6) nd rfl (Or.inl rfl)) pgs_nil))) (fun _ _ _ _ _ => pts_one (pt_cmpR op_le (pv 6) (pv 1) (nomark _))) (fun _ _ _ _ _ => pv 5))
      (pss_cons (ps_if (PW.pt (pw_or (pt_cmpR op_in_seq pe_str (pv 3) (by rfl)) (pw_or1 (pt_not (pt_val (pe_dget hu1 (pv 0) pe_str (fun _ _ => rfl))))))) (pss_one (ps_ret pe_str)) pss_nil)
      (pss_one (ps_ret (pe_ifExp (pt_cmpR op_eq (pe_bm PySem.F.plainAttrs_list PySem.F.slot_list_count PySem.F.type_list_count (mt_countD hu) (pv 3) (pa_cons pe_str pa_nil)) (pe_callB call_lenD (by rfl) T.b_len PySem.boot_len (pa_cons (pe_dget hu1 (pv 0) pe_str (fun _ _ => rfl)) pa_nil)) (nomark _)) pe_str pe_non))))), ?_⟩
    obtain ⟨kvs, hd, hp⟩ := id M.nr
    refine ⟨_, rfl, a.p, _, rfl, M.get_heard, a.near, kvs, rfl, hd, fun p hp1 => ?_⟩
    have s1 : Same H (upd H p (.lst (kvs.map (·.2)))) := same_new hp1
    have hpp : (upd H p (.lst (kvs.map (·.2)))) p = some (.lst (kvs.map (·.2))) := upd_same
    generalize upd H p (.lst (kvs.map (·.2))) = H1 at s1 hpp
    have hlen : (kvs.map (·.2)).length ≤ 100000 := by
      rw [List.length_map, paired_len hp]
      exact hl
    refine ⟨p, rfl, ⟨_, SqL.of hpp⟩, fun D hD => ?_⟩
    have npD : p ≠ D := ne_of_none hpp hD
    refine lc_list (K := K) (a := p) (xs := kvs.map (·.2)) (fun i H' => H' = upd H1 D (.lst (((kvs.map (·.2)).take i).filter nonV))) (by rw [List.take_zero]; rfl) (fun i H' _ e => by rw [e]; exact SqL.of (by rw [upd_ne npD]; exact hpp)) ?_ ?_
    · rintro i x H' hi rfl
      refine ⟨rfl, _, rfl, _, rfl, ?_⟩
      have tk : (kvs.map (·.2)).take (i + 1) = (kvs.map (·.2)).take i ++ [x] := by
        rw [List.take_add_one, hi]
        rfl
      have ll : (((kvs.map (·.2)).take i).filter nonV).length < sizeLine := by
        refine sz5 (Nat.le_trans (List.length_filter_le _ _) ?_)
        rw [List.length_take]
        omega
      by_cases c : x = .non
      · rw [decide_eq_true c]
        refine iteF ?_
        show _ = _
        rw [tk, List.filter_append]
        have e : [x].filter nonV = [] := by simp [nonV, c]
        rw [e, List.append_nil]
      · rw [decide_eq_false c]
        refine iteT ⟨_, rfl, _, upd_same, ll, ?_⟩
        show _ = _
        rw [upd_upd, tk, List.filter_append]
        have e : [x].filter nonV = [x] := by simp [nonV, c]
        rw [e]
    rintro H' rfl
    rw [List.take_length]
    have hr1 : Paired (rowR H1) (rowsOf g.near) ((kvs.map (·.2)).filter nonV) := Paired.mapP (rows_paired hp) fun _ _ q => q.stay fun b xs e => s1 _ _ e
    have s2 : Same H (upd H1 D (.lst ((kvs.map (·.2)).filter nonV))) := s1.trans (same_new hD)
    have hDD : (upd H1 D (.lst ((kvs.map (·.2)).filter nonV))) D = some (.lst ((kvs.map (·.2)).filter nonV)) := upd_same
    have hr2 : Paired (rowR (upd H1 D (.lst ((kvs.map (·.2)).filter nonV)))) (rowsOf g.near) ((kvs.map (·.2)).filter nonV) := Paired.mapP hr1 fun _ _ q => q.stay fun b xs e => same_new hD _ _ e
    generalize upd H1 D (.lst ((kvs.map (·.2)).filter nonV)) = H2 at s2 hDD hr2
    generalize (kvs.map (·.2)).filter nonV = vs at hDD hr2
    have hvl : vs.length = (rowsOf g.near).length := paired_len hr2
    have hrl : (rowsOf g.near).length ≤ 100000 := by
      unfold rowsOf
      exact Nat.le_trans (List.length_filterMap_le _ _) hl
    refine ⟨_, rfl, D, rfl, ⟨_, SqL.of hDD⟩, fun D2 hD2 => ?_⟩
    have nDD : D ≠ D2 := ne_of_none hDD hD2
    refine lc_list (K := K) (a := D) (xs := vs) (fun i H' => H' = upd H2 D2 (.lst (((((rowsOf g.near).take i).filter fun p => decide (p.2 ≤ u)).map (·.1)).map V.str))) (by rw [List.take_zero]; rfl) (fun i H' _ e => by rw [e]; exact SqL.of (by rw [upd_ne nDD]; exact hDD)) ?_ ?_
    · rintro i x H' hi rfl
      obtain ⟨⟨wd, n⟩, hy, b, rfl, hb⟩ := paired_at hr2 hi
      have hil : i < (rowsOf g.near).length := (List.getElem?_eq_some_iff.mp hy).1
      have tk : (rowsOf g.near).take (i + 1) = (rowsOf g.near).take i ++ [(wd, n)] := by
        rw [List.take_add_one, hy]
        rfl
      have ll : (((((rowsOf g.near).take i).filter fun p => decide (p.2 ≤ u)).map (·.1)).map V.str).length < sizeLine := by
        rw [List.length_map, List.length_map]
        refine sz5 (Nat.le_trans (List.length_filter_le _ _) ?_)
        rw [List.length_take]
        omega
      refine ⟨b, _, rfl, SqT.of (by rw [upd_ne (ne_of_none hb hD2)]; exact hb), rfl, _, _, rfl, _, _, rfl, rfl, rfl, ?_⟩
      refine ⟨_, rfl, _, rfl, _, _, rfl, rfl, _, rfl, ?_⟩
      by_cases c : n ≤ u
      · have c' : (n : Int) ≤ (u : Int) := by omega
        rw [decide_eq_true c']
        refine iteT ⟨_, rfl, _, upd_same, ll, ?_⟩
        show _ = _
        rw [upd_upd, tk, List.filter_append]
        have e : [(wd, n)].filter (fun p => decide (p.2 ≤ u)) = [(wd, n)] := by simp [c]
        rw [e, List.map_append, List.map_append]
        rfl
      · have c' : ¬ (n : Int) ≤ (u : Int) := by omega
        rw [decide_eq_false c']
        refine iteF ?_
        show _ = _
        rw [tk, List.filter_append]
        have e : [(wd, n)].filter (fun p => decide (p.2 ≤ u)) = [] := by simp [c]
        rw [e, List.append_nil]
    rintro H' rfl
    rw [hvl, List.take_length]
    have s3 : Same H (upd H2 D2 (.lst ((((rowsOf g.near).filter fun p => decide (p.2 ≤ u)).map (·.1)).map V.str))) := s2.trans (same_new hD2)
    have hD3 : (upd H2 D2 (.lst ((((rowsOf g.near).filter fun p => decide (p.2 ≤ u)).map (·.1)).map V.str))) D2 = some (.lst ((someOf g.near u).map V.str)) := upd_same
    generalize upd H2 D2 (.lst ((((rowsOf g.near).filter fun p => decide (p.2 ≤ u)).map (·.1)).map V.str)) = H3 at s3 hD3
    have k1 := k H3 s3
    unfold givenM at k1
    have M3 : MineAt K H3 a g := M.stay (fun b u e _ => s3 b u e) fun b xs e => s3 _ _ e
    refine ⟨_, rfl, D2, _, rfl, .inl (SqL.of hD3), rfl, flat_strs _, _, rfl, ?_⟩
    show (if (if false = true then _ else inV (.str "barred") ((someOf g.near u).map V.str)) = true then _ else _)
    rw [if_neg Bool.false_ne_true, inV_strs]
    by_cases hb : ("barred" : Str) ∈ someOf g.near u
    · rw [if_pos (.inl hb)] at k1
      rw [decide_eq_true hb]
      exact iteT (iteT k1)
    · rw [decide_eq_false hb]
      refine iteF ?_
      refine ⟨_, rfl, a.p, _, rfl, M3.get_wish, _, rfl, ?_⟩
      cases hw : g.wished with
      | false =>
        rw [if_pos (.inr hw)] at k1
        exact iteT k1
      | true =>
        rw [if_neg (fun z => z.elim hb fun z => by rw [hw] at z; cases z)] at k1
        refine iteF ?_
        refine ⟨_, rfl, .inl ⟨rfl, _, SqL.of hD3⟩, D2, _, .str "clear", _, rfl, rfl, .lst (SqL.of hD3) (dpAll_strs _), .str _, plainAll_strs _, rfl, (by simp only [PyData.depth]; omega), ?_⟩
        rw [count_sD]
        obtain ⟨kvs3, hd3, hp3⟩ := id M3.nr
        refine ⟨_, rfl, a.p, _, rfl, M3.get_heard, a.near, kvs3, rfl, hd3, rfl, _, rfl, ?_⟩
        rw [paired_len hp3]
        by_cases hc : (someOf g.near u).countP (fun x => decide (x = wClear)) = g.near.length
        · rw [if_pos hc] at k1
          have hc' : V.int (((someOf g.near u).countP (fun x => decide (x = ("clear" : Str))) : Nat) : Int) = V.int ((g.near.length : Nat) : Int) := by
            rw [show (someOf g.near u).countP (fun x => decide (x = ("clear" : Str))) = g.near.length from hc]
          rw [decide_eq_true hc']
          exact iteT k1
        · rw [if_neg hc] at k1
          have hc' : ¬ V.int (((someOf g.near u).countP (fun x => decide (x = ("clear" : Str))) : Nat) : Int) = V.int ((g.near.length : Nat) : Int) := fun e => hc (by
            injection e with e
            exact_mod_cast e)
          rw [decide_eq_false hc']
          exact iteF k1
end
end Ha

/-! The law's own defs, third part: _law_look, _law_shut. -/
namespace Ha
open PySem PySem.Spec PyProof.Rows L2
theorem paired_append {α β : Type} {R : α → β → Prop} : ∀ {l : List α} {xs : List β} {m : List α} {ys : List β}, Paired R l xs → Paired R m ys → Paired R (l ++ m) (xs ++ ys)
  | _, _, _, _, .nil, q => q
  | _, _, _, _, .cons r p, q => .cons r (paired_append p q)
/-- [(h, l) for h in hs], new letters -/
theorem lcPairs {K : PySem.W.Frag} {a D : Addr} {hs : List Str} {lt : List Str} {σ : L2.St} {H1 : Hp} {Qd : Hp → Prop} {j : Nat} {te : TE} (hq : SqL K H1 a (hs.map V.str)) (hD : H1 D = none) (hl : hs.length ≤ 100000)
    (ht : ∀ (x : Str) (H : Hp) (Q : VK), (∀ v H', Same H H' → goR K H' (x, lt) v → Q v H') → te ((wipe σ [j]).set j (some (.str x))) H Q)
    (hd : ∀ H' acc, H' D = some (.lst acc) → Paired (goR K H') (hs.map fun h => (h, lt)) acc → Same H1 H' → Qd H')
    (h1 : ∀ x : V, wipe ((wipe σ [j]).set j (some x)) [j] = wipe σ [j] := by intro; rfl) :
    ∃ W : Nat → Nat → Hp → Prop, (∃ m, W 0 m (upd H1 D (.lst []))) ∧ ∀ i m H, W i m H →
      ((Itl K a).stop i H ∧ Qd H) ∨ ((Itl K a).go i H ∧ ∃ Nx : Hp → Prop, (∀ H', Nx H' → ∃ m', m' < m ∧ W (i + 1) m' H') ∧ ∀ x H', (Itl K a).yld i H x H' → gName j x (wipe σ [j]) H' fun σ2 H2 => wipe σ2 [j] = wipe σ [j] ∧ tYes σ2 H2 fun b H3 =>
        if b = true then te σ2 H3 fun y H4 => ∃ acc, H4 D = some (.lst acc) ∧ acc.length < sizeLine ∧ Nx (upd H4 D (.lst (acc ++ [y]))) else Nx H3) := by
  have sq : ∀ H', Same H1 H' → SqL K H' a (hs.map V.str) := fun H' s => by
    rcases hq with (e | ⟨z, e⟩) | e
    · exact .inl (.inl (s _ _ e))
    · exact .inl (.inr ⟨z, s _ _ e⟩)
    · exact .inr e
  refine lc_list (K := K) (a := a) (xs := hs.map V.str) (fun i H' => ∃ acc, H' D = some (.lst acc) ∧ Paired (goR K H') ((hs.take i).map fun h => (h, lt)) acc ∧ Same H1 H') ⟨[], upd_same, .nil, same_new hD⟩ (fun i H' _ ⟨_, _, _, s⟩ => sq H' s) ?_ ?_
  · rintro i x H' hi ⟨acc, e, p, s⟩
    rw [List.getElem?_map] at hi
    obtain ⟨y, hy, rfl⟩ := Option.map_eq_some_iff.mp hi
    have hil : i < hs.length := (List.getElem?_eq_some_iff.mp hy).1
    refine ⟨h1 _, ?_⟩
    unfold tYes
    refine iteT ?_
    refine ht y H' _ fun v H2 s2 g => ?_
    have ll := paired_len p
    rw [List.length_map, List.length_take] at ll
    have e2 := s2 _ _ e
    refine ⟨acc, e2, sz5 (by omega), acc ++ [v], upd_same, ?_, fun b o z => ?_⟩
    · have tk : hs.take (i + 1) = hs.take i ++ [y] := by
        rw [List.take_add_one, hy]
        rfl
      have tt : TStay H2 (upd H2 D (.lst (acc ++ [v]))) := fun b xs z => by
        have n : b ≠ D := fun q => by
          rw [q, e2] at z
          cases z
        rw [upd_ne n]
        exact z
      rw [tk, List.map_append]
      exact (Paired.mapP p fun _ _ q => (q.stay fun b xs z => s2 _ _ z).stay tt).snoc (g.stay tt)
    · have n : b ≠ D := ne_of_none z hD
      rw [upd_ne n]
      exact s2 _ _ (s _ _ z)
  · rintro H' ⟨acc, e, p, s⟩
    rw [List.length_map, List.take_length] at p
    exact hd H' acc e p s
/-- a letter of one word -/
theorem pair1 {K : PySem.W.Frag} {j : Nat} {x wd : Str} {σ : L2.St} (hσ : σ[j]? = some (some (.str x))) (H : Hp) (Q : VK) (k : ∀ v H', Same H H' → goR K H' (x, [wd]) v → Q v H') :
    tTup (tCons (tVar j) (tCons (tTup (tCons (tC (.str wd)) tNil)) tNil)) σ H Q := by
  refine ⟨_, hσ, (by show 1 ≤ sizeLine; decide), fun b hb => ⟨(by show 2 ≤ sizeLine; decide), fun t ht => ?_⟩⟩
  refine k _ _ ((same_new hb).trans (same_new ht)) ⟨t, b, rfl, upd_same, .inl ?_⟩
  rw [upd_ne (ne_of_none upd_same ht)]
  exact upd_same
/-- a letter with a word -/
theorem pair2 {K : PySem.W.Frag} {j i : Nat} {x wd : Str} {σ : L2.St} (hσ : σ[j]? = some (some (.str x))) (hw : σ[i]? = some (some (.str wd))) (H : Hp) (Q : VK) (k : ∀ v H', Same H H' → goR K H' (x, lWord wd) v → Q v H') :
    tTup (tCons (tVar j) (tCons (tTup (tCons (tC (.str "word")) (tCons (tVar i) tNil))) tNil)) σ H Q := by
  refine ⟨_, hσ, _, hw, (by show 2 ≤ sizeLine; decide), fun b hb => ⟨(by show 2 ≤ sizeLine; decide), fun t ht => ?_⟩⟩
  refine k _ _ ((same_new hb).trans (same_new ht)) ⟨t, b, rfl, upd_same, .inl ?_⟩
  rw [upd_ne (ne_of_none upd_same ht)]
  exact upd_same
def PostM (K : PySem.W.Frag) (a : GA) (H : Hp) (g' : G) (Q : VK) : Prop := ∀ a' H', a'.p = a.p → MineAt K H' a' g' → Frm a.ft H a'.ft H' → Q .non H'
def shutM (g : G) : G := if g.opened = true ∧ g.waits = [] then close g else g
def LookPre (g : G) (c : Option Str) : Prop := Base g ∧ (∀ h, c = some h → Nm h) ∧ Fit 6000 80000 80000 g
def preL (g : G) : Prop := g.past.length ≤ 60000 ∧ g.going.length ≤ 30000
def spLLook (K : PySem.W.Frag) (pre : G → Prop) : Sp := fun vs H Q _ => ∃ (a : GA) (g : G) (c : Option Str), vs = [.ref a.p, oV c] ∧ MineAt K H a g ∧ LookPre g c ∧ pre g ∧ PostM K a H (look g c) Q
def spLShut (K : PySem.W.Frag) : Sp := fun vs H Q _ => ∃ (a : GA) (g : G), vs = [.ref a.p] ∧ MineAt K H a g ∧ Base g ∧ Fit 6000 70000 60000 g ∧ (g.opened = true → g.mark = none) ∧ PostM K a H (shutM g) Q
theorem giveUp_shut (g : G) (c : Option Str) : giveUp g c = shutM (giveUp1 g c) := by
  unfold giveUp shutM
  by_cases h : g.knows = []
  · rw [if_pos h, if_pos ⟨rfl, h⟩]
  · rw [if_neg h, if_neg (fun z => h z.2)]
section
variable {P : Program} {w : World} {K : PySem.W.Frag} {mg : Str → Option Value} {base : Heap}
theorem ok_llook_of (T : Tx K mg) {n : Nat} (hn : 1 ≤ n) {spU : Sp} (GU : FnOk P w K mg base CX0 n T.d_l_shut.f T.d_l_shut.fd ["_law_mine"] spU) (pre : G → Prop)
    (hU : ∀ (a : GA) (g : G) (c : Option Str) (H : Hp) (Q : VK) (m : Str), MineAt K H a (giveUp1 g c) → LookPre g c → pre g → g.opened = false → g.mark = some m → PostM K a H (giveUp g c) Q → spU [.ref a.p] H Q E0) :
    FnOk P w K mg base CX0 (n + 1) T.d_l_look.f T.d_l_look.fd ["_law_mine", "_law_cause"] (spLLook K pre) := by
  have GG : FnOk P w K mg base CX0 1 T.d_l_given.f T.d_l_given.fd ["_law_mine", "_law_upto"] (spLGiven K) := fn_lGiven T
  refine T.d_l_look.F.ok sc_l_look (fun vs H Q E h => ?_) (fun cdv A outer s H vs Q E hr h => ?_)
  · obtain ⟨a, g, c, rfl, _⟩ := h
    rfl
  · obtain ⟨a, g, c, rfl, M, ⟨ok, hc, hl⟩, hpre, k⟩ := h
    have nd := sc_l_look.nd
    have hu := hu_of hr
    have hr1 : Room 1 _ := hr.mono hn
    refine ⟨_, pss_cons (ps_if (pt_val (pe_dget hu (pv 0) pe_str (fun _ _ => rfl))) (pss_one ps_retN) pss_nil)
      (pss_one (ps_if (pt_cmp (pc_isN (pe_dget hu (pv 0) pe_str (fun _ _ => rfl))))
        (pss_cons (ps_set (i := 2) nd rfl (.inr rfl) (pe_call GG hr1 (by rfl) T.g_l_given T.d_l_given.F.kp T.d_l_given.b .nil pass0 (pa_cons (pv 0) (pa_cons (pe_dget hu (pv 0) pe_str (fun _ _ => rfl)) pa_nil))))
        (pss_one (ps_if (pt_cmp (pc_notN (pv 2)))
          (pss_cons (ps_asg (pe_tup (pa_cons (pv 2) (pa_cons (pe_dget hu (pv 0) pe_str (fun _ _ => rfl)) pa_nil))) (pg_tup (by rfl) (pgs_cons (pg_sub (pv 0) pe_str (set_dict hu)) (pgs_cons (pg_sub (pv 0) pe_str (set_dict hu)) pgs_nil))))
          (pss_cons (ps_expr (pe_bm PySem.F.plainAttrs_list PySem.F.slot_list_append PySem.F.type_list_append mt_append (pe_dget hu (pv 0) pe_str (fun _ _ => rfl)) (pa_cons (pe_tup (pa_cons (pv 2) (pa_cons pe_non pa_nil))) pa_nil)))
          (pss_cons (ps_dput hu (pv 0) pe_str (pe_callB (cr_sortedDA rfl) (by rfl) T.b_sorted (by decide +kernel) (pa_cons (pe_dget hu (pv 0) pe_str (fun _ _ => rfl)) pa_nil)) rfl)
          (pss_one (ps_expr (pe_bm PySem.F.plainAttrs_list PySem.F.slot_list_extend PySem.F.type_list_extend mt_extend (pe_dget hu (pv 0) pe_str (fun _ _ => rfl)) (pa_cons (pe_lc (own := [("_law_house", 3)]) (g := gName 3) (tt := tYes) rfl nd (pi_list (pe_dget hu (pv 0) pe_str (fun _ _ => rfl))) (blkOk_by (own := [("_law_house", 3)]) (N := n_l_look) (sc := defScope s_l_look) (by decide +kernel))
            (fun _ _ _ _ _ => pg_name (i := 3) nd rfl (Or.inl rfl)) (fun _ _ _ _ _ => pts_nil) (fun _ _ _ _ _ => pe_tup (pa_cons (pv 3) (pa_cons (pe_tup (pa_cons pe_str (pa_cons (pv 2) pa_nil))) pa_nil)))) pa_nil)))))))
          pss_nil)))
        (pss_one (ps_if (pt_cmpR op_ne (pe_call GG hr1 (by rfl) T.g_l_given T.d_l_given.F.kp T.d_l_given.b .nil pass0 (pa_cons (pv 0) (pa_cons (pe_dget hu (pv 0) pe_str (fun _ _ => rfl)) pa_nil))) (pe_dget hu (pv 0) pe_str (fun _ _ => rfl)) (nomark _))
          (pss_cons (ps_expr (pe_bm PySem.F.plainAttrs_list PySem.F.slot_list_append PySem.F.type_list_append mt_append (pe_dget hu (pv 0) pe_str (fun _ _ => rfl)) (pa_cons (pe_tup (pa_cons pe_non (pa_cons (pv 1) pa_nil))) pa_nil)))
          (pss_cons (ps_expr (pe_bm PySem.F.plainAttrs_list PySem.F.slot_list_extend PySem.F.type_list_extend mt_extend (pe_dget hu (pv 0) pe_str (fun _ _ => rfl)) (pa_cons (pe_lc (own := [("_law_house", 3)]) (g := gName 3) (tt := tYes) rfl nd (pi_list (pe_callB cr_sortedSA (by rfl) T.b_sorted (by decide +kernel) (pa_cons (pe_dget hu (pv 0) pe_str (fun _ _ => rfl)) pa_nil))) (blkOk_by (own := [("_law_house", 3)]) (N := n_l_look) (sc := defScope s_l_look) (by decide +kernel))
            (fun _ _ _ _ _ => pg_name (i := 3) nd rfl (Or.inl rfl)) (fun _ _ _ _ _ => pts_nil) (fun _ _ _ _ _ => pe_tup (pa_cons (pv 3) (pa_cons (pe_tup (pa_cons pe_str pa_nil)) pa_nil)))) pa_nil)))
          (pss_cons (ps_asg (pe_tup (pa_cons pe_non (pa_cons pe_bl (pa_cons (pv 1) pa_nil)))) (pg_tup (by rfl) (pgs_cons (pg_sub (pv 0) pe_str (set_dict hu)) (pgs_cons (pg_sub (pv 0) pe_str (set_dict hu)) (pgs_cons (pg_sub (pv 0) pe_str (set_dict hu)) pgs_nil)))))
          (pss_cons (ps_asg (pe_tup (pa_cons (pe_callB cr_sortedSA (by rfl) T.b_sorted (by decide +kernel) (pa_cons (pe_dget hu (pv 0) pe_str (fun _ _ => rfl)) pa_nil)) (pa_cons (pe_lst pa_nil) pa_nil))) (pg_tup (by rfl) (pgs_cons (pg_sub (pv 0) pe_str (set_dict hu)) (pgs_cons (pg_sub (pv 0) pe_str (set_dict hu)) pgs_nil))))
          (pss_one (ps_expr (pe_call GU hr (by rfl) T.g_l_shut T.d_l_shut.F.kp T.d_l_shut.b .nil pass0 (pa_cons (pv 0) pa_nil))))))))
          pss_nil)))), ?_⟩
    refine ⟨_, rfl, a.p, _, rfl, M.get_open, _, rfl, ?_⟩
    unfold look at k
    cases ho : g.opened with
    | true =>
      rw [if_pos ho] at k
      exact iteT (k a H rfl M (Frm.refl _ _))
    | false =>
      rw [if_neg (by rw [ho]; exact Bool.false_ne_true)] at k
      refine iteF ?_
      refine ⟨_, rfl, a.p, _, rfl, M.get_word, ?_⟩
      cases hm : g.mark with
      | none =>
        rw [hm] at k
        have k : PostM K a H (lookN g) Q := k
        refine ⟨_, rfl, iteT ?_⟩
        refine ⟨_, rfl, _, rfl, a.p, _, rfl, M.get_count, a, g, g.ears, rfl, M, Nat.le_trans hl.n (by decide), fun H1 s1 => ?_⟩
        rw [← given_false ok]
        have M1 := (MS.start M).same s1
        unfold lookN at k
        cases hg : given g false with
        | none =>
          rw [hg] at k
          refine ⟨_, rfl, _, rfl, iteF ?_⟩
          exact k a H1 rfl M1.m M1.f
        | some wd =>
          rw [hg] at k
          refine ⟨_, rfl, _, rfl, iteT ?_⟩
          refine ⟨_, rfl, _, rfl, a.p, _, rfl, M1.m.get_count, (by show 2 ≤ sizeLine; decide), fun p hp => ?_⟩
          have M2 := M1.new (u := .tup [oV (some wd), .int (g.ears : Int)]) hp
          obtain ⟨H3, hd3, M3, _⟩ := M2.put_word (some wd)
          refine ⟨p, _, rfl, SqT.of upd_same, rfl, _, _, rfl, _, rfl, a.p, H3, rfl, hd3, ?_⟩
          obtain ⟨H4, hd4, M4, _⟩ := M3.put_at g.ears
          refine ⟨_, _, rfl, _, rfl, a.p, H4, rfl, hd4, rfl, ?_⟩
          obtain ⟨xs, hx, px⟩ := id M4.m.pa
          refine ⟨_, rfl, a.p, _, rfl, M4.m.get_past, .inl ⟨rfl, _, SqL.of hx⟩, _, rfl, (by show 2 ≤ sizeLine; decide), fun t ht => ?_⟩
          have xl := paired_len px
          refine ⟨a.past, xs, _, rfl, rfl, (by rw [upd_ne (ne_of_none hx ht)]; exact hx), sz5 (by rw [xl]; exact Nat.le_trans hl.pa (by decide)), ?_⟩
          have M5 := M4.new (u := .tup [oV (some wd), .non]) ht
          have M6 := M5.in_past (l := g.past ++ [(some wd, none)]) (xs := xs ++ [.ref t]) ((Paired.mapP px fun _ _ q => q.stay fun b ys e => by rw [upd_ne (ne_of_none e ht)]; exact e).snoc ⟨t, rfl, upd_same⟩)
          change tSeq _ _ _ _ (upd (upd H4 t (.tup [oV (some wd), .non])) a.past (.lst (xs ++ [.ref t])))
          generalize upd (upd H4 t (.tup [oV (some wd), .non])) a.past (.lst (xs ++ [.ref t])) = H6 at M6 ⊢
          obtain ⟨kvs, hd, hp6⟩ := id M6.m.nr
          refine ⟨_, rfl, a.p, _, rfl, M6.m.get_heard, a.near, kvs, g.keys, rfl, .inl hd, near_keys hp6, fun ys q perm sorted hq => ?_⟩
          have ey : ys = srt g.keys := srt_of perm sorted
          subst ey
          obtain ⟨H7, hd7, M7, kp7⟩ := (M6.new hq).put_sure (q := q) (l := srt g.keys) (ks := srt g.keys) upd_same (List.Perm.refl _) (M6.m.notNew hq) (M6.fresh hq)
          have hq7 : H7 q = some (.lst ((srt g.keys).map V.str)) := kp7 _ _ upd_same (ne_of_none M6.m.ob hq).symm
          refine ⟨_, rfl, a.p, H7, rfl, hd7, ?_⟩
          obtain ⟨zs, hz, pz⟩ := id M7.m.go
          have kl : (srt g.keys).length ≤ 6000 := by
            rw [srt_len, keys_len]
            exact hl.n
          refine ⟨_, rfl, a.p, _, rfl, M7.m.get_out, .inl ⟨rfl, _, SqL.of hz⟩, _, rfl, a.p, _, rfl, M7.m.get_sure, q, rfl, ⟨_, SqL.of hq7⟩, fun D hD => ?_⟩
          refine lcPairs (hs := srt g.keys) (lt := lWord wd) (SqL.of hq7) hD (Nat.le_trans kl (by decide)) (fun x H Q kk => pair2 rfl rfl H Q kk) (fun H8 acc hDl pacc s8 => ?_)
          have zl := paired_len pz
          have al := paired_len pacc
          rw [List.length_map] at al
          have gl : g.going.length ≤ 80000 := hl.go
          have zl' : zs.length = g.going.length := zl
          refine ⟨a.going, D, zs, acc, rfl, rfl, s8 _ _ hz, hDl, sz5' (by omega), ?_⟩
          have M9 := (M7.same s8).in_out (l := g.going ++ (srt g.keys).map fun h => (h, lWord wd)) (xs := zs ++ acc) (paired_append (Paired.mapP pz fun _ _ q => q.stay fun b ys e => s8 _ _ e) pacc)
          exact k _ _ (by rfl) M9.m M9.f
      | some m =>
        rw [hm] at k
        have k : PostM K a H (if given g true = some m then g else giveUp g c) Q := k
        refine ⟨_, rfl, iteF ?_⟩
        refine ⟨_, rfl, _, rfl, a.p, _, rfl, M.get_at, a, g, g.since, rfl, M, Nat.le_trans hl.n (by decide), fun H1 s1 => ?_⟩
        rw [← given_true ok]
        have M1 := (MS.start M).same s1
        refine ⟨_, rfl, a.p, _, rfl, M1.m.get_word, scal_oV _ _, _, rfl, ?_⟩
        by_cases hg : given g true = some m
        · rw [if_pos hg] at k
          have e : oV (given g true) = oV g.mark := by rw [hg, hm]
          rw [decide_eq_true e]
          exact iteF (k a H1 rfl M1.m M1.f)
        · rw [if_neg hg] at k
          have e : ¬ oV (given g true) = oV g.mark := fun z => hg ((oV_inj.mp z).trans hm)
          rw [decide_eq_false e]
          refine iteT ?_
          obtain ⟨xs, hx, px⟩ := id M1.m.pa
          refine ⟨_, rfl, a.p, _, rfl, M1.m.get_past, .inl ⟨rfl, _, SqL.of hx⟩, _, rfl, (by show 2 ≤ sizeLine; decide), fun t ht => ?_⟩
          have xl := paired_len px
          refine ⟨a.past, xs, _, rfl, rfl, (by rw [upd_ne (ne_of_none hx ht)]; exact hx), sz5 (by rw [xl]; exact Nat.le_trans hl.pa (by decide)), ?_⟩
          have M5 := M1.new (u := .tup [oV none, oV c]) ht
          have M6 := M5.in_past (l := g.past ++ [(none, c)]) (xs := xs ++ [.ref t]) ((Paired.mapP px fun _ _ q => q.stay fun b ys e => by rw [upd_ne (ne_of_none e ht)]; exact e).snoc ⟨t, rfl, upd_same⟩)
          change tSeq _ _ _ _ (upd (upd H1 t (.tup [oV none, oV c])) a.past (.lst (xs ++ [.ref t])))
          generalize upd (upd H1 t (.tup [oV none, oV c])) a.past (.lst (xs ++ [.ref t])) = H6 at M6 ⊢
          obtain ⟨zs, hz, pz⟩ := id M6.m.go
          obtain ⟨l, lp, hk⟩ := id M6.m.kn
          have lp : l.Perm g.knows := lp
          have kl : g.knows.length ≤ 6000 := hl.k
          refine ⟨_, rfl, a.p, _, rfl, M6.m.get_out, .inl ⟨rfl, _, SqL.of hz⟩, _, rfl, a.p, _, rfl, M6.m.get_sure, a.knows, l, rfl, SqL.of hk, fun ys q perm sorted hq => ?_⟩
          have ey : ys = g.knows := by
            rw [srt_of perm sorted, srt_congr lp]
            exact ok.ks
          subst ey
          have M7 := M6.new (u := .lst (g.knows.map V.str)) hq
          refine ⟨q, rfl, ⟨_, SqL.of upd_same⟩, fun D hD => ?_⟩
          refine lcPairs (hs := g.knows) (lt := lOpen) (SqL.of upd_same) hD (Nat.le_trans kl (by decide)) (fun x H Q kk => pair1 rfl H Q kk) (fun H8 acc hDl pacc s8 => ?_)
          have zl := paired_len pz
          have al := paired_len pacc
          rw [List.length_map] at al
          have gl : g.going.length ≤ 80000 := hl.go
          have zl' : zs.length = g.going.length := zl
          have hz7 := s8 _ _ (same_new hq _ _ hz)
          refine ⟨a.going, D, zs, acc, rfl, rfl, hz7, hDl, sz5' (by omega), ?_⟩
          have M9 := (M7.same s8).in_out (l := g.going ++ g.knows.map fun h => (h, lOpen)) (xs := zs ++ acc) (paired_append (Paired.mapP pz fun _ _ q => q.stay fun b ys e => s8 _ _ (same_new hq _ _ e)) pacc)
          generalize upd H8 a.going (.lst (zs ++ acc)) = H9 at M9 ⊢
          refine ⟨_, rfl, (by show 3 ≤ sizeLine; decide), fun p hp => ?_⟩
          obtain ⟨H10, hd10, M10, _⟩ := (M9.new (u := .tup [.non, .bl true, oV c]) hp).put_word none
          refine ⟨p, _, rfl, SqT.of upd_same, rfl, _, _, rfl, _, rfl, a.p, H10, rfl, hd10, ?_⟩
          obtain ⟨H11, hd11, M11, _⟩ := M10.put_open true
          refine ⟨_, _, rfl, _, rfl, a.p, H11, rfl, hd11, ?_⟩
          obtain ⟨H12, hd12, M12, _⟩ := M11.put_why c
          refine ⟨_, _, rfl, _, rfl, a.p, H12, rfl, hd12, rfl, ?_⟩
          obtain ⟨l2, lp2, hk2⟩ := id M12.m.kn
          have lp2 : l2.Perm g.knows := lp2
          refine ⟨_, rfl, a.p, _, rfl, M12.m.get_sure, a.knows, l2, rfl, SqL.of hk2, fun ys q1 perm sorted hq1 => ?_⟩
          have ey : ys = g.knows := by
            rw [srt_of perm sorted, srt_congr lp2]
            exact ok.ks
          subst ey
          have M13 := M12.new (u := .lst (g.knows.map V.str)) hq1
          refine ⟨Nat.zero_le _, fun q2 hq2 => ?_⟩
          have M14 := M13.new (u := .lst []) hq2
          have n12 : q1 ≠ q2 := ne_of_none upd_same hq2
          refine ⟨(by show 2 ≤ sizeLine; decide), fun p2 hp2 => ?_⟩
          have M15 := M14.new (u := .tup [.ref q1, .ref q2]) hp2
          have e1 : (upd (upd (upd H12 q1 (.lst (g.knows.map V.str))) q2 (.lst [])) p2 (.tup [.ref q1, .ref q2])) q1 = some (.lst (g.knows.map V.str)) := same_new hp2 _ _ (same_new hq2 _ _ upd_same)
          have e2 : (upd (upd (upd H12 q1 (.lst (g.knows.map V.str))) q2 (.lst [])) p2 (.tup [.ref q1, .ref q2])) q2 = some (.lst []) := same_new hp2 _ _ upd_same
          have f1 := M12.m.notNew hq1
          have f2 := M13.m.notNew hq2
          obtain ⟨H16, hd16, M16, kp16⟩ := M15.put_due (q := q1) (l := g.knows) e1 f1 (M12.fresh hq1)
          refine ⟨p2, _, rfl, SqT.of upd_same, rfl, _, _, rfl, _, rfl, a.p, H16, rfl, hd16, ?_⟩
          have e3 : H16 q2 = some (.lst []) := kp16 _ _ e2 fun z => f2 (by rw [z]; simp [GA.ft])
          have f3 : q2 ∉ ({ a with waits := q1 } : GA).ft := by
            simp only [GA.ft, List.mem_cons, List.not_mem_nil, or_false, not_or] at f2 ⊢
            exact ⟨f2.1, f2.2.1, f2.2.2.1, Ne.symm n12, f2.2.2.2.2⟩
          obtain ⟨H17, hd17, M17, _⟩ := M16.put_sure (q := q2) (l := []) (ks := []) e3 (List.Perm.refl _) f3 (M13.fresh hq2)
          refine ⟨_, _, rfl, _, rfl, a.p, H17, rfl, hd17, rfl, ?_⟩
          refine ⟨_, rfl, ?_⟩
          exact hU ({ a with waits := q1, knows := q2 } : GA) g c H17 _ m M17.m ⟨ok, hc, hl⟩ hpre ho hm fun a' H' ea M' f' => k a' H' ea M' (M17.f.trans f')
end
end Ha

/-! The law's own defs, fourth part: _law_shut, the whole _law_look. -/
namespace Ha
open PySem PySem.Spec PyProof.Rows L2
theorem close2_in {g : G} (h : g.mark = some wIn) : close2 g = g := by
  unfold close2
  rw [if_neg (fun z => z h)]
theorem close2_no {g : G} (h : g.mark ≠ some wIn) : close2 g = { tellAll g (srt g.seats) lBack with seats := [] } := by
  unfold close2
  rw [if_pos h]
section
variable {P : Program} {w : World} {K : PySem.W.Frag} {mg : Str → Option Value} {base : Heap}
theorem fn_llook0 (T : Tx K mg) : FnOk P w K mg base CX0 2 T.d_l_look.f T.d_l_look.fd ["_law_mine", "_law_cause"] (spLLook K pre0) :=
  ok_llook_of T (by decide) fnFalse pre0 fun a g c H Q m M hl hp ho hm k => by
    rcases hp with z | z
    · rw [z] at ho
      cases ho
    · rw [z] at hm
      cases hm
theorem fn_lshut (T : Tx K mg) : FnOk P w K mg base CX0 3 T.d_l_shut.f T.d_l_shut.fd ["_law_mine"] (spLShut K) := by
  have GL : FnOk P w K mg base CX0 2 T.d_l_look.f T.d_l_look.fd ["_law_mine", "_law_cause"] (spLLook K pre0) := fn_llook0 T
  refine T.d_l_shut.F.ok sc_l_shut (fun vs H Q E h => ?_) (fun cdv A outer s H vs Q E hr h => ?_)
  · obtain ⟨a, g, rfl, _⟩ := h
    rfl
  · obtain ⟨a, g, rfl, M, ok, hl, hom, k⟩ := h
    have nd := sc_l_shut.nd
    have hu := hu_of hr
    refine ⟨_, pss_one (ps_if (PW.pt (pw_and (pt_val (pe_dget hu (pv 0) pe_str (fun _ _ => rfl))) (pw_and1 (pt_cmpR (op_eqD hr.units) (pe_dget hu (pv 0) pe_str (fun _ _ => rfl)) (pe_lst pa_nil) (nomark _)))))
      (pss_cons (ps_asg (pe_tup (pa_cons pe_bl (pa_cons pe_non pa_nil))) (pg_tup (by rfl) (pgs_cons (pg_sub (pv 0) pe_str (set_dict hu)) (pgs_cons (pg_sub (pv 0) pe_str (set_dict hu)) pgs_nil))))
      (pss_cons (ps_expr (pe_call GL hr (by rfl) T.g_l_look T.d_l_look.F.kp T.d_l_look.b .nil pass0 (pa_cons (pv 0) (pa_cons pe_non pa_nil))))
      (pss_cons (ps_expr (pe_bm PySem.F.plainAttrs_list PySem.F.slot_list_extend PySem.F.type_list_extend mt_extend (pe_dget hu (pv 0) pe_str (fun _ _ => rfl)) (pa_cons (pe_lc (own := [("_law_house", 1)]) (g := gName 1) (tt := tYes) rfl nd (pi_list (pe_callB cr_sortedSA (by rfl) T.b_sorted (by decide +kernel) (pa_cons (pe_dget hu (pv 0) pe_str (fun _ _ => rfl)) pa_nil))) (blkOk_by (own := [("_law_house", 1)]) (N := n_l_shut) (sc := defScope s_l_shut) (by decide +kernel))
            (fun _ _ _ _ _ => pg_name (i := 1) nd rfl (Or.inl rfl)) (fun _ _ _ _ _ => pts_nil) (fun _ _ _ _ _ => pe_tup (pa_cons (pv 1) (pa_cons (pe_tup (pa_cons pe_str pa_nil)) pa_nil)))) pa_nil)))
      (pss_cons (ps_dput hu (pv 0) pe_str (pe_lst pa_nil) rfl)
      (pss_one (ps_if (pt_cmpR op_ne (pe_dget hu (pv 0) pe_str (fun _ _ => rfl)) pe_str (nomark _))
        (pss_cons (ps_expr (pe_bm PySem.F.plainAttrs_list PySem.F.slot_list_extend PySem.F.type_list_extend mt_extend (pe_dget hu (pv 0) pe_str (fun _ _ => rfl)) (pa_cons (pe_lc (own := [("_law_house", 1)]) (g := gName 1) (tt := tYes) rfl nd (pi_list (pe_callB cr_sortedSA (by rfl) T.b_sorted (by decide +kernel) (pa_cons (pe_dget hu (pv 0) pe_str (fun _ _ => rfl)) pa_nil))) (blkOk_by (own := [("_law_house", 1)]) (N := n_l_shut) (sc := defScope s_l_shut) (by decide +kernel))
            (fun _ _ _ _ _ => pg_name (i := 1) nd rfl (Or.inl rfl)) (fun _ _ _ _ _ => pts_nil) (fun _ _ _ _ _ => pe_tup (pa_cons (pv 1) (pa_cons (pe_tup (pa_cons pe_str pa_nil)) pa_nil)))) pa_nil)))
        (pss_one (ps_dput hu (pv 0) pe_str (pe_lst pa_nil) rfl))) pss_nil)))))) pss_nil), ?_⟩
    refine ⟨_, rfl, a.p, _, rfl, M.get_open, _, rfl, ?_⟩
    unfold shutM at k
    cases ho : g.opened with
    | false =>
      rw [if_neg (fun z => by rw [ho] at z; exact Bool.false_ne_true z.1)] at k
      exact iteF (iteF (k a H rfl M (Frm.refl _ _)))
    | true =>
      refine iteT ?_
      have M0 := MS.start M
      refine ⟨_, rfl, a.p, _, rfl, M.get_due, Nat.zero_le _, fun q hq => ?_⟩
      have M1 := M0.new (u := .lst []) hq
      refine ⟨_, _, .lst (SqL.of M1.m.wt) (dpAll_strs _), .lst (SqL.of upd_same) .nil, shaped_names ok.nW, shaped_nil, _, rfl, ?_⟩
      rw [eqv_nil]
      by_cases hk : g.waits = []
      · rw [if_pos ⟨ho, hk⟩] at k
        rw [decide_eq_true hk]
        refine iteT ?_
        have hm := hom ho
        generalize upd H q (.lst []) = H1 at M1 ⊢
        refine ⟨(by show 2 ≤ sizeLine; decide), fun p hp => ?_⟩
        obtain ⟨H3, hd3, M3, _⟩ := (M1.new (u := .tup [.bl false, .non]) hp).put_open false
        refine ⟨p, _, rfl, SqT.of upd_same, rfl, _, _, rfl, _, rfl, a.p, H3, rfl, hd3, ?_⟩
        obtain ⟨H4, hd4, M4, _⟩ := M3.put_why none
        refine ⟨_, _, rfl, _, rfl, a.p, H4, rfl, hd4, rfl, ?_⟩
        have ok4 : Base { g with opened := false, source := none } := { ok with nC := (fun _ e => nomatch e) }
        have hl4 : Fit 6000 70000 60000 { g with opened := false, source := none } := { hl with }
        refine ⟨_, rfl, a, _, none, rfl, M4.m, ⟨ok4, (fun _ e => nomatch e), hl4.mono (by decide) (by decide) (by decide)⟩, .inr hm, fun b H5 eb MM5 f5 => ?_⟩
        have eL : look { g with opened := false, source := none } none = lookN { g with opened := false, source := none } := by
          unfold look
          rw [if_neg Bool.false_ne_true]
          show (match g.mark with | none => _ | some m => _) = _
          rw [hm]
        have MM5 := eL ▸ MM5
        have M5 : MS K a.ft H H5 b (lookN { g with opened := false, source := none }) := ⟨MM5, M4.f.trans f5⟩
        have hl5 := fit_lookN hl4
        unfold close close1 at k
        generalize lookN { g with opened := false, source := none } = g5 at M5 hl5 k
        have k : PostM K a H (close2 { tellAll g5 (srt g5.debts) lHeard with debts := [] }) Q := k
        rw [← eb]
        obtain ⟨zs, hz, pz⟩ := id M5.m.go
        refine ⟨_, rfl, b.p, _, rfl, M5.m.get_out, .inl ⟨rfl, _, SqL.of hz⟩, _, rfl, b.p, _, rfl, M5.m.get_owe, b.debts, g5.debts, rfl, SqL.of M5.m.db, fun ys q1 perm sorted hq1 => ?_⟩
        have ey : ys = srt g5.debts := srt_of perm sorted
        subst ey
        have M6 := M5.new (u := .lst ((srt g5.debts).map V.str)) hq1
        have dl : (srt g5.debts).length ≤ 6000 := by
          rw [srt_len]
          exact hl5.d
        refine ⟨q1, rfl, ⟨_, SqL.of upd_same⟩, fun D hD => ?_⟩
        refine lcPairs (hs := srt g5.debts) (lt := lHeard) (SqL.of upd_same) hD (Nat.le_trans dl (by decide)) (fun x H Q kk => pair1 rfl H Q kk) (fun H8 acc hDl pacc s8 => ?_)
        have zl := paired_len pz
        have al := paired_len pacc
        rw [List.length_map] at al
        have gl : g5.going.length ≤ 66000 := hl5.go
        refine ⟨b.going, D, zs, acc, rfl, rfl, s8 _ _ (same_new hq1 _ _ hz), hDl, sz5' (by omega), ?_⟩
        have M9 := (M6.same s8).in_out (l := g5.going ++ (srt g5.debts).map fun h => (h, lHeard)) (xs := zs ++ acc) (paired_append (Paired.mapP pz fun _ _ q => q.stay fun b ys e => s8 _ _ (same_new hq1 _ _ e)) pacc)
        generalize upd H8 b.going (.lst (zs ++ acc)) = H9 at M9 ⊢
        refine ⟨Nat.zero_le _, fun q2 hq2 => ?_⟩
        obtain ⟨H10, hd10, M10, _⟩ := (M9.new (u := .lst []) hq2).put_owe (q := q2) (l := []) upd_same (M9.m.notNew hq2) (M9.fresh hq2)
        refine ⟨_, rfl, b.p, H10, rfl, hd10, ?_⟩
        have M10 : MS K a.ft H H10 { b with debts := q2 } { tellAll g5 (srt g5.debts) lHeard with debts := [] } := M10
        have hs6 : g5.seats.length ≤ 6000 := hl5.s
        have hg6 : (tellAll g5 (srt g5.debts) lHeard).going.length ≤ 72000 := by
          show (g5.going ++ (srt g5.debts).map fun h => (h, lHeard)).length ≤ 72000
          rw [List.length_append, List.length_map]
          omega
        generalize eb2 : ({ b with debts := q2 } : GA) = c at M10
        have ec : c.p = b.p := by rw [← eb2]
        rw [← ec]
        refine ⟨_, rfl, c.p, oV g5.mark, rfl, M10.m.get_word, scal_oV g5.mark (some wIn), _, rfl, ?_⟩
        by_cases hmk : g5.mark = some wIn
        · have e : oV g5.mark = V.str "in" := by rw [hmk]; rfl
          rw [decide_eq_true e]
          rw [close2_in (show ({ tellAll g5 (srt g5.debts) lHeard with debts := [] } : Ha.G).mark = some wIn from hmk)] at k
          exact iteF (k c H10 (ec.trans eb) M10.m M10.f)
        · have e : ¬ oV g5.mark = V.str "in" := fun z => hmk (oV_inj.mp (z : oV g5.mark = oV (some wIn)))
          rw [decide_eq_false e]
          rw [close2_no (show ({ tellAll g5 (srt g5.debts) lHeard with debts := [] } : Ha.G).mark ≠ some wIn from hmk)] at k
          refine iteT ?_
          obtain ⟨zs2, hz2, pz2⟩ := id M10.m.go
          refine ⟨_, rfl, c.p, _, rfl, M10.m.get_out, .inl ⟨rfl, _, SqL.of hz2⟩, _, rfl, c.p, _, rfl, M10.m.get_seats, c.seats, g5.seats, rfl, SqL.of M10.m.st, fun ys q3 perm sorted hq3 => ?_⟩
          have ey : ys = srt g5.seats := srt_of perm sorted
          subst ey
          have M11 := M10.new (u := .lst ((srt g5.seats).map V.str)) hq3
          have sl : (srt g5.seats).length ≤ 6000 := by
            rw [srt_len]
            exact hs6
          refine ⟨q3, rfl, ⟨_, SqL.of upd_same⟩, fun D2 hD2 => ?_⟩
          refine lcPairs (hs := srt g5.seats) (lt := lBack) (SqL.of upd_same) hD2 (Nat.le_trans sl (by decide)) (fun x H Q kk => pair1 rfl H Q kk) (fun H12 acc2 hDl2 pacc2 s12 => ?_)
          have zl2 := paired_len pz2
          have al2 := paired_len pacc2
          rw [List.length_map] at al2
          have zl2' : zs2.length = (tellAll g5 (srt g5.debts) lHeard).going.length := zl2
          refine ⟨c.going, D2, zs2, acc2, rfl, rfl, s12 _ _ (same_new hq3 _ _ hz2), hDl2, sz5' (by omega), ?_⟩
          have M13 := (M11.same s12).in_out (l := (tellAll g5 (srt g5.debts) lHeard).going ++ (srt g5.seats).map fun h => (h, lBack)) (xs := zs2 ++ acc2) (paired_append (Paired.mapP pz2 fun _ _ q => q.stay fun b ys e => s12 _ _ (same_new hq3 _ _ e)) pacc2)
          generalize upd H12 c.going (.lst (zs2 ++ acc2)) = H13 at M13 ⊢
          refine ⟨Nat.zero_le _, fun q4 hq4 => ?_⟩
          obtain ⟨H14, hd14, M14, _⟩ := (M13.new (u := .lst []) hq4).put_seats (q := q4) (l := []) upd_same (M13.m.notNew hq4) (M13.fresh hq4)
          refine ⟨_, rfl, c.p, H14, rfl, hd14, ?_⟩
          exact k { c with seats := q4 } H14 (ec.trans eb) M14.m M14.f
      · rw [if_neg (fun z => hk z.2)] at k
        rw [decide_eq_false hk]
        exact iteF (k a _ rfl M1.m M1.f)
theorem fn_llook (T : Tx K mg) : FnOk P w K mg base CX0 4 T.d_l_look.f T.d_l_look.fd ["_law_mine", "_law_cause"] (spLLook K preL) :=
  ok_llook_of T (by decide) (fn_lshut T) preL fun a g c H Q m M hl hp ho hm k => ⟨a, giveUp1 g c, rfl, M, base_giveUp1 hl.1 hl.2.1, (fit_giveUp1 { hl.2.2 with pa := hp.1, go := hp.2 }).mono (by decide) (by decide) (by decide), fun _ => rfl, by rw [← giveUp_shut]; exact k⟩
end
end Ha

/-! The law's own defs, fifth part: _law_joined, _law_opened. -/
namespace Ha
open PySem PySem.Spec PyProof.Rows L2
theorem base_add {g : G} {h : Str} (b : Base g) (hn : Nm h) (hk : h ∉ g.keys) : Base { g with near := g.near ++ [(h, none)] } := by
  refine { b with nd := ?_, num := ?_, nN := ?_ }
  · show ((g.near ++ [(h, none)]).map Prod.fst).Nodup
    rw [List.map_append, List.nodup_append]
    refine ⟨b.nd, by simp, fun x hx c hc => ?_⟩
    have e : c = h := by simpa using hc
    rw [e]
    exact fun z => hk (z ▸ hx)
  · intro p hp w n e
    rcases List.mem_append.mp hp with hp | hp
    · exact b.num p hp w n e
    · rw [List.mem_singleton.mp hp] at e
      cases e
  · intro x hx
    have hx' : x ∈ (g.near ++ [(h, none)]).map Prod.fst := hx
    rw [List.map_append] at hx'
    rcases List.mem_append.mp hx' with hx' | hx'
    · exact b.nN x hx'
    · have e : x = h := by simpa using hx'
      rw [e]
      exact hn
theorem base_open {g : G} {h : Str} (b : Base g) : Base { g with near := nearSet g.near h none } := by
  refine { b with nd := ?_, num := ?_, nN := ?_ }
  · show ((nearSet g.near h none).map Prod.fst).Nodup
    rw [set_keys]
    exact b.nd
  · intro p hp w n e
    rcases set_mem hp with hp | hp
    · exact b.num p hp w n e
    · rw [hp] at e
      cases e
  · intro x hx
    have hx' : x ∈ (nearSet g.near h none).map Prod.fst := hx
    rw [set_keys] at hx'
    exact b.nN x hx'
theorem base_word {g : G} {h wd : Str} (b : Base g) (hw : wd = wClear ∨ wd = wBarred) : Base { g with ears := g.ears + 1, near := nearSet g.near h (some (wd, g.ears + 1)) } := by
  refine { b with nd := ?_, num := ?_, nN := ?_ }
  · show ((nearSet g.near h _).map Prod.fst).Nodup
    rw [set_keys]
    exact b.nd
  · intro p hp w n e
    rcases set_mem hp with hp | hp
    · exact ⟨Nat.le_succ_of_le (b.num p hp w n e).1, (b.num p hp w n e).2⟩
    · rw [hp] at e
      cases e
      exact ⟨Nat.le_refl _, hw⟩
  · intro x hx
    have hx' : x ∈ (nearSet g.near h _).map Prod.fst := hx
    rw [set_keys] at hx'
    exact b.nN x hx'
/-- a deed on the law's dict: refused, or done -/
def DoneM (K : PySem.W.Frag) (a : GA) (H : Hp) (o : Option G) (Q : VK) : Prop := (o = none → ∀ H', Same H H' → Q (.bl false) H') ∧ ∀ g', o = some g' → ∀ a' H', a'.p = a.p → MineAt K H' a' g' → Frm a.ft H a'.ft H' → Q (.bl true) H'
def spLJoined (K : PySem.W.Frag) : Sp := fun vs H Q _ => ∃ (a : GA) (g : G) (h : Str), vs = [.ref a.p, .str h] ∧ Nm h ∧ MineAt K H a g ∧ preS g ∧ DoneM K a H (stepR g (.join h)) Q
def spLOpened (K : PySem.W.Frag) : Sp := fun vs H Q _ => ∃ (a : GA) (g : G) (h : Str), vs = [.ref a.p, .str h] ∧ Nm h ∧ h ∈ g.keys ∧ MineAt K H a g ∧ preS g ∧
  ∀ a' H', a'.p = a.p → MineAt K H' a' (hearOpenB g.opened (hearOpenA g h) h) → Frm a.ft H a'.ft H' → Q (.bl true) H'
section
variable {P : Program} {w : World} {K : PySem.W.Frag} {mg : Str → Option Value} {base : Heap}
theorem snocV (l : List Str) (h : Str) : l.map V.str ++ [V.str h] = (l ++ [h]).map V.str := by
  rw [List.map_append]
  rfl
theorem fn_ljoined (T : Tx K mg) : FnOk P w K mg base CX0 5 T.d_l_joined.f T.d_l_joined.fd ["_law_mine", "_law_house"] (spLJoined K) := by
  have GL : FnOk P w K mg base CX0 4 T.d_l_look.f T.d_l_look.fd ["_law_mine", "_law_cause"] (spLLook K preL) := fn_llook T
  refine T.d_l_joined.F.ok sc_l_joined (fun vs H Q E h => ?_) (fun cdv A outer s H vs Q E hr h => ?_)
  · obtain ⟨a, g, h, rfl, _⟩ := h
    rfl
  · obtain ⟨a, g, h, rfl, hn, M, ⟨ok, t, ht, hl⟩, kE, k⟩ := h
    have nd := sc_l_joined.nd
    have hu := hu_of hr
    refine ⟨_, pss_cons (ps_if (PW.pt (pw_or (pt_cmp (pc_din hu (pv 1) (pe_dget hu (pv 0) pe_str (fun _ _ => rfl))) (by rfl)) (pw_or1 (pt_cmpR op_eq (pv 1) (pe_dget hu (pv 0) pe_str (fun _ _ => rfl)) (nomark _)))))
        (pss_one (ps_ret pe_bl)) pss_nil)
      (pss_cons (ps_dput hu (pe_dget hu (pv 0) pe_str (fun _ _ => rfl)) (pv 1) pe_non rfl)
      (pss_cons (ps_expr (pe_call GL hr (by rfl) T.g_l_look T.d_l_look.F.kp T.d_l_look.b .nil pass0 (pa_cons (pv 0) (pa_cons pe_non pa_nil))))
      (pss_cons (ps_if (PW.pt (pw_and (pt_cmp (pc_notN (pe_dget hu (pv 0) pe_str (fun _ _ => rfl)))) (pw_and1 (pt_cmpR op_notIn_seq (pv 1) (pe_dget hu (pv 0) pe_str (fun _ _ => rfl)) (by rfl)))))
        (pss_cons (ps_expr (pe_bm PySem.F.plainAttrs_list PySem.F.slot_list_append PySem.F.type_list_append mt_append (pe_dget hu (pv 0) pe_str (fun _ _ => rfl)) (pa_cons (pv 1) pa_nil)))
        (pss_one (ps_expr (pe_bm PySem.F.plainAttrs_list PySem.F.slot_list_append PySem.F.type_list_append mt_append (pe_dget hu (pv 0) pe_str (fun _ _ => rfl)) (pa_cons (pe_tup (pa_cons (pv 1) (pa_cons (pe_tup (pa_cons pe_str (pa_cons (pe_dget hu (pv 0) pe_str (fun _ _ => rfl)) pa_nil))) pa_nil))) pa_nil)))))
        pss_nil)
      (pss_one (ps_ret pe_bl))))), ?_⟩
    have es : stepR g (.join h) = if h = g.own ∨ h ∈ g.keys then none else some (joinB (joinA g h) h) := rfl
    have M0 := MS.start M
    obtain ⟨kvs, hd, hp⟩ := id M.nr
    refine ⟨_, rfl, _, rfl, a.p, _, rfl, M.get_heard, a.near, _, rfl, DGet.k (k := Sum.inr h) hd, _, rfl, ?_⟩
    rw [near_some hp]
    by_cases m : h ∈ g.near.map (·.1)
    · rw [decide_eq_true m]
      exact iteT (iteT (kE (by rw [es, if_pos (.inr m)]) H (Same.refl H)))
    · rw [decide_eq_false m]
      refine iteF ?_
      refine ⟨_, rfl, _, rfl, a.p, _, rfl, M.get_name, rfl, _, rfl, ?_⟩
      by_cases e0 : h = g.own
      · rw [decide_eq_true (show V.str h = V.str g.own by rw [e0])]
        exact iteT (kE (by rw [es, if_pos (.inl e0)]) H (Same.refl H))
      · rw [decide_eq_false (show ¬ V.str h = V.str g.own from fun z => e0 (V.str.inj z))]
        refine iteF ?_
        have k' := k _ (by rw [es, if_neg (fun z => z.elim e0 m)])
        have kl : kvs.length < sizeLine := sz5 (by rw [paired_len hp]; exact Nat.le_trans hl.n (by omega))
        refine ⟨_, rfl, a.p, _, rfl, M.get_heard, _, rfl, a.near, _, rfl, DPut.k (k := Sum.inr h) hd kl, ?_⟩
        have M1 := M0.in_heard (l := g.near ++ [(h, none)]) (xs := putK kvs (Sum.inr h : Key) .non) (near_addK hp m)
        generalize upd H a.near (.dK (putK kvs (Sum.inr h : Key) .non)) = H1 at M1 ⊢
        have hl1 : Fit (t + 1) 10000 0 { g with near := g.near ++ [(h, none)] } := { hl.mono (Nat.le_succ t) (Nat.le_refl _) (Nat.le_refl _) with n := (by rw [List.length_append]; exact Nat.succ_le_succ hl.n) }
        have b1 := base_add ok.toBase hn m
        refine ⟨_, rfl, a, _, none, rfl, M1.m, ⟨b1, (fun _ e => nomatch e), hl1.mono (by omega) (by decide) (by decide)⟩, ⟨Nat.le_trans hl1.pa (by decide), Nat.le_trans hl1.go (by decide)⟩, fun b H2 eb MM2 f2 => ?_⟩
        have M2 : MS K a.ft H H2 b (joinA g h) := ⟨MM2, M1.f.trans f2⟩
        have hl2 : Fit (t + 1) (10000 + 2) (0 + 4 * (t + 1)) (joinA g h) := fit_look hl1
        generalize joinA g h = g2 at M2 hl2 k'
        rw [← eb] at k' ⊢
        refine ⟨_, rfl, b.p, _, rfl, M2.m.get_word, _, rfl, ?_⟩
        cases hm : g2.mark with
        | none =>
          rw [joinB_none hm] at k'
          exact iteF (k' b H2 rfl M2.m M2.f)
        | some mk =>
          rw [joinB_some hm] at k'
          refine iteT ?_
          obtain ⟨l, lp, hk⟩ := id M2.m.kn
          refine ⟨_, rfl, _, rfl, b.p, _, rfl, M2.m.get_sure, b.knows, _, rfl, .inl (SqL.of hk), rfl, flat_strs _, _, rfl, ?_⟩
          show (if (if true = true then !inV (.str h) (l.map V.str) else _) = true then _ else _)
          rw [if_pos rfl, inV_strs]
          by_cases hs : h ∈ g2.knows
          · rw [if_pos hs] at k'
            rw [decide_eq_true (lp.mem_iff.mpr hs)]
            exact iteF (k' b H2 rfl M2.m M2.f)
          · rw [if_neg hs] at k'
            rw [decide_eq_false (fun z => hs (lp.mem_iff.mp z))]
            refine iteT ?_
            have ll : l.length ≤ 6000 := by
              rw [lp.length_eq]
              exact Nat.le_trans hl2.k (by omega)
            refine ⟨_, rfl, b.p, _, rfl, M2.m.get_sure, .inl ⟨rfl, _, SqL.of hk⟩, _, rfl, b.knows, l.map V.str, .str h, rfl, rfl, hk, sz5 (by rw [List.length_map]; omega), ?_⟩
            rw [snocV]
            have M3 := M2.in_sure (l := l ++ [h]) (ks := srt (g2.knows ++ [h])) ((lp.append_right [h]).trans (srt_perm _).symm)
            generalize upd H2 b.knows (.lst ((l ++ [h]).map V.str)) = H3 at M3 ⊢
            have hw : DGet H3 b.p (.str "word") (some (.str mk)) := by
              have z := M3.m.get_word
              have e : oV ({ g2 with knows := srt (g2.knows ++ [h]) } : Ha.G).mark = V.str mk := by
                show oV g2.mark = _
                rw [hm]
                rfl
              rw [e] at z
              exact z
            obtain ⟨zs, hz, pz⟩ := id M3.m.go
            have zl := paired_len pz
            have zl' : zs.length ≤ 4 * (t + 1) := by
              rw [zl]
              exact Nat.le_trans hl2.go (by omega)
            refine ⟨_, rfl, b.p, _, rfl, M3.m.get_out, .inl ⟨rfl, _, SqL.of hz⟩, _, rfl, _, rfl, b.p, _, rfl, hw, (by show 2 ≤ sizeLine; decide), fun q hq => ⟨(by show 2 ≤ sizeLine; decide), fun u hu2 => ?_⟩⟩
            have s3 : Same H3 (upd (upd H3 q (.tup [.str "word", .str mk])) u (.tup [.str h, .ref q])) := (same_new hq).trans (same_new hu2)
            refine ⟨b.going, zs, _, rfl, rfl, s3 _ _ hz, sz5 (by omega), ?_⟩
            have e5 : (upd (upd H3 q (.tup [.str "word", .str mk])) u (.tup [.str h, .ref q])) q = some (.tup ((lWord mk).map V.str)) := by
              rw [upd_ne (ne_of_none upd_same hu2)]
              exact upd_same
            have M5 := (M3.same s3).in_out (l := g2.going ++ [(h, lWord mk)]) (xs := zs ++ [.ref u]) ((Paired.mapP pz fun _ _ z => z.stay fun c ys e => s3 _ _ e).snoc ⟨u, q, rfl, upd_same, .inl e5⟩)
            exact k' b _ rfl M5.m M5.f
theorem fn_lopened (T : Tx K mg) : FnOk P w K mg base CX0 5 T.d_l_opened.f T.d_l_opened.fd ["_law_mine", "_law_house"] (spLOpened K) := by
  have GL : FnOk P w K mg base CX0 4 T.d_l_look.f T.d_l_look.fd ["_law_mine", "_law_cause"] (spLLook K preL) := fn_llook T
  refine T.d_l_opened.F.ok sc_l_opened (fun vs H Q E h => ?_) (fun cdv A outer s H vs Q E hr h => ?_)
  · obtain ⟨a, g, h, rfl, _⟩ := h
    rfl
  · obtain ⟨a, g, h, rfl, hn, m, M, ⟨ok, t, ht, hl⟩, k⟩ := h
    have nd := sc_l_opened.nd
    have hu := hu_of hr
    refine ⟨_, pss_cons (ps_dput hu (pe_dget hu (pv 0) pe_str (fun _ _ => rfl)) (pv 1) pe_non rfl)
      (pss_cons (ps_set (i := 2) nd rfl (.inl rfl) (pe_dget hu (pv 0) pe_str (fun _ _ => rfl)))
      (pss_cons (ps_expr (pe_call GL hr (by rfl) T.g_l_look T.d_l_look.F.kp T.d_l_look.b .nil pass0 (pa_cons (pv 0) (pa_cons (pv 1) pa_nil))))
      (pss_cons (ps_if (PW.pt (pw_and (pt_val (pe_dget hu (pv 0) pe_str (fun _ _ => rfl))) (pw_and1 (pt_not (pt_val (pv 2))))))
        (pss_one (ps_expr (pe_bm PySem.F.plainAttrs_list PySem.F.slot_list_append PySem.F.type_list_append mt_append (pe_dget hu (pv 0) pe_str (fun _ _ => rfl)) (pa_cons (pv 1) pa_nil))))
        (pss_one (ps_expr (pe_bm PySem.F.plainAttrs_list PySem.F.slot_list_append PySem.F.type_list_append mt_append (pe_dget hu (pv 0) pe_str (fun _ _ => rfl)) (pa_cons (pe_tup (pa_cons (pv 1) (pa_cons (pe_tup (pa_cons pe_str pa_nil)) pa_nil))) pa_nil)))))
      (pss_one (ps_ret pe_bl))))), ?_⟩
    have M0 := MS.start M
    obtain ⟨kvs, hd, hp⟩ := id M.nr
    have kl : kvs.length < sizeLine := sz5 (by rw [paired_len hp]; exact Nat.le_trans hl.n (by omega))
    refine ⟨_, rfl, a.p, _, rfl, M.get_heard, _, rfl, a.near, _, rfl, DPut.k (k := Sum.inr h) hd kl, ?_⟩
    have M1 := M0.in_heard (l := nearSet g.near h none) (xs := putK kvs (Sum.inr h : Key) .non) (near_putK hp m rfl)
    generalize upd H a.near (.dK (putK kvs (Sum.inr h : Key) .non)) = H1 at M1 ⊢
    refine ⟨_, rfl, a.p, _, rfl, M1.m.get_open, ?_⟩
    have hl1 : Fit t 10000 0 { g with near := nearSet g.near h none } := { hl with n := (by show (nearSet g.near h none).length ≤ t; rw [set_len]; exact hl.n) }
    refine ⟨_, rfl, _, rfl, a, _, some h, rfl, M1.m, ⟨base_open ok.toBase, (fun x e => by rw [← Option.some.inj e]; exact hn), hl1.mono (by omega) (by decide) (by decide)⟩, ⟨Nat.le_trans hl1.pa (by decide), Nat.le_trans hl1.go (by decide)⟩, fun b H2 eb MM2 f2 => ?_⟩
    have M2 : MS K a.ft H H2 b (hearOpenA g h) := ⟨MM2, M1.f.trans f2⟩
    have hl2 : Fit t (10000 + 2) (0 + 4 * t) (hearOpenA g h) := fit_hearOpenA hl
    generalize hearOpenA g h = g2 at M2 hl2 k
    rw [← eb] at k ⊢
    unfold hearOpenB at k
    refine ⟨_, rfl, b.p, _, rfl, M2.m.get_open, _, rfl, ?_⟩
    have no : ∀ (z : ¬ (g2.opened = true ∧ g.opened = false)) (D : Ends), D.rt = Q → tSeq (tDrop (tBM K "list" rAppend (tDGet (tVar 0) (tC (.str "out"))) (tCons (tTup (tCons (tVar 1) (tCons (tTup (tCons (tC (.str "heard")) tNil)) tNil))) tNil))) (tRet (tC (.bl true))) D [some (.ref b.p), some (.str h), some (.bl g.opened)] H2 := by
      intro z D eD
      rw [if_neg z] at k
      obtain ⟨zs, hz, pz⟩ := id M2.m.go
      have zl := paired_len pz
      have zl' : zs.length ≤ 4 * t := by
        rw [zl]
        exact Nat.le_trans hl2.go (by omega)
      refine ⟨_, rfl, b.p, _, rfl, M2.m.get_out, .inl ⟨rfl, _, SqL.of hz⟩, _, rfl, (by show 1 ≤ sizeLine; decide), fun q hq => ⟨(by show 2 ≤ sizeLine; decide), fun u hu2 => ?_⟩⟩
      have s3 : Same H2 (upd (upd H2 q (.tup [.str "heard"])) u (.tup [.str h, .ref q])) := (same_new hq).trans (same_new hu2)
      have e5 : (upd (upd H2 q (.tup [.str "heard"])) u (.tup [.str h, .ref q])) q = some (.tup (lHeard.map V.str)) := by
        rw [upd_ne (ne_of_none upd_same hu2)]
        exact upd_same
      refine ⟨b.going, zs, _, rfl, rfl, s3 _ _ hz, sz5 (by omega), ?_⟩
      have M5 := (M2.same s3).in_out (l := g2.going ++ [(h, lHeard)]) (xs := zs ++ [.ref u]) ((Paired.mapP pz fun _ _ z => z.stay fun c ys e => s3 _ _ e).snoc ⟨u, q, rfl, upd_same, .inl e5⟩)
      show D.rt _ _
      rw [eD]
      exact k b _ rfl M5.m M5.f
    cases ho : g2.opened with
    | false => exact iteF (no (fun z => by rw [ho] at z; exact Bool.false_ne_true z.1) _ rfl)
    | true =>
      refine iteT ?_
      refine ⟨_, rfl, _, rfl, ?_⟩
      cases hw : g.opened with
      | true =>
        rw [hw] at no
        exact iteF (no (fun z => by cases z.2) _ rfl)
      | false =>
        rw [if_pos ⟨ho, hw⟩] at k
        refine iteT ?_
        have hb := M2.m.db
        refine ⟨_, rfl, b.p, _, rfl, M2.m.get_owe, .inl ⟨rfl, _, SqL.of hb⟩, _, rfl, b.debts, g2.debts.map V.str, .str h, rfl, rfl, hb, sz5 (by rw [List.length_map]; exact Nat.le_trans hl2.d (by omega)), ?_⟩
        rw [snocV]
        have M3 := M2.in_owe (l := g2.debts ++ [h])
        exact k b _ rfl M3.m M3.f
end
end Ha

/-! The law's own defs, sixth part: _law_parted. -/
namespace Ha
open PySem PySem.Spec PyProof.Rows L2
theorem shut_open {g : G} (h : g.opened = true) : shutM g = if g.waits = [] then close g else g := by
  unfold shutM
  by_cases c : g.waits = []
  · rw [if_pos ⟨h, c⟩, if_pos c]
  · rw [if_neg (fun z => c z.2), if_neg c]
theorem answered_shut {g : G} {h : Str} (ok : Ok g) (hh : h ∈ g.waits) : answered g h = shutM { g with waits := g.waits.filter fun x => decide (x ≠ h) } := by
  have ho : g.opened = true := ok.op2.mpr fun e => by rw [e] at hh; cases hh
  rw [shut_open (g := { g with waits := g.waits.filter fun x => decide (x ≠ h) }) ho]
  rfl
theorem partB_shut {g : G} {h : Str} (ok : Ok g) : partB g h = shutM { g with waits := g.waits.filter fun x => decide (x ≠ h) } := by
  unfold partB
  by_cases hh : h ∈ g.waits
  · rw [if_pos hh, answered_shut ok hh]
  · rw [if_neg hh]
    have e : (g.waits.filter fun x => decide (x ≠ h)) = g.waits := List.filter_eq_self.mpr fun x hx => decide_eq_true fun z => hh (z ▸ hx)
    have e2 : ({ g with waits := g.waits.filter fun x => decide (x ≠ h) } : G) = g := by
      rw [e]
    rw [e2]
    unfold shutM
    rw [if_neg fun z => ok.op2.mp z.1 z.2]
def partG (g : G) (h : Str) : Nat → G
  | 0 => { g with near := nearDrop g.near h }
  | 1 => { g with near := nearDrop g.near h, knows := g.knows.filter fun x => decide (x ≠ h) }
  | 2 => { g with near := nearDrop g.near h, knows := g.knows.filter fun x => decide (x ≠ h), debts := g.debts.filter fun x => decide (x ≠ h) }
  | _ => { g with near := nearDrop g.near h, knows := g.knows.filter fun x => decide (x ≠ h), debts := g.debts.filter fun x => decide (x ≠ h), seats := g.seats.filter fun x => decide (x ≠ h) }
def spLParted (K : PySem.W.Frag) : Sp := fun vs H Q _ => ∃ (a : GA) (g : G) (h : Str), vs = [.ref a.p, .str h] ∧ Nm h ∧ MineAt K H a g ∧ preS g ∧ DoneM K a H (stepR g (.part h)) Q
theorem why_rd {K : PySem.W.Frag} {H : Hp} {b : GA} {g : G} {h : Str} {σ : L2.St} {Q : VK} (M : MineAt K H b g) (σ0 : σ[0]? = some (some (.ref b.p))) (σ1 : σ[1]? = some (some (.str h))) (q : Q (oV (if g.source = some h then none else g.source)) H) :
    tIf (tTest (tOp rEq (tDGet (tVar 0) (tC (.str "why"))) (tVar 1))) (tC .non) (tDGet (tVar 0) (tC (.str "why"))) σ H Q := by
  refine ⟨_, σ0, b.p, oV g.source, rfl, M.get_why, _, σ1, scal_oV g.source (some h), _, rfl, ?_⟩
  by_cases c : g.source = some h
  · rw [if_pos c] at q
    rw [decide_eq_true (show oV g.source = V.str h by rw [c]; rfl)]
    exact iteT q
  · rw [if_neg c] at q
    rw [decide_eq_false (show ¬ oV g.source = V.str h from fun z => c (oV_inj.mp (z : oV g.source = oV (some h))))]
    exact iteF ⟨_, σ0, b.p, oV g.source, rfl, M.get_why, q⟩
section
variable {P : Program} {w : World} {K : PySem.W.Frag} {mg : Str → Option Value} {base : Heap}
theorem drop_len (l : List (Str × Option (Str × Nat))) (h : Str) : (nearDrop l h).length ≤ l.length := List.length_filter_le _ _
theorem fn_lparted (T : Tx K mg) : FnOk P w K mg base CX0 5 T.d_l_parted.f T.d_l_parted.fd ["_law_mine", "_law_house"] (spLParted K) := by
  have GL : FnOk P w K mg base CX0 4 T.d_l_look.f T.d_l_look.fd ["_law_mine", "_law_cause"] (spLLook K preL) := fn_llook T
  have GS : FnOk P w K mg base CX0 3 T.d_l_shut.f T.d_l_shut.fd ["_law_mine"] (spLShut K) := fn_lshut T
  refine T.d_l_parted.F.ok sc_l_parted (fun vs H Q E h => ?_) (fun cdv A outer s H vs Q E hr h => ?_)
  · obtain ⟨a, g, h, rfl, _⟩ := h
    rfl
  · obtain ⟨a, g, h, rfl, hn, M, ⟨ok, t, ht, hl⟩, kE, k⟩ := h
    have nd := sc_l_parted.nd
    have hu := hu_of hr
    have hr3 : Room 3 _ := hr.mono (by decide)
    refine ⟨_, pss_cons (ps_if (pt_cmp (pc_dnotin hu (pv 1) (pe_dget hu (pv 0) pe_str (fun _ _ => rfl))) (by rfl)) (pss_one (ps_ret pe_bl)) pss_nil)
      (pss_cons (ps_expr (pe_dpop1 (pe_dget hu (pv 0) pe_str (fun _ _ => rfl)) (pv 1) ⟨rfl, rfl, rfl, rfl⟩))
      (pss_cons (ps_for PassesOwn.never rfl (pi_list (pe_lst (pa_cons pe_str (pa_cons pe_str (pa_cons pe_str pa_nil))))) (pg_name (i := 2) nd rfl (.inl rfl))
        (pss_one (ps_dput hu (pv 0) (pv 2) (pe_lc (own := [("_law_one", 3)]) (g := gName 3) rfl nd (pi_list (pe_dget hu (pv 0) (pv 2) (fun _ _ => rfl))) (blkOk_by (own := [("_law_one", 3)]) (N := n_l_parted) (sc := defScope s_l_parted) (by decide +kernel))
          (fun _ _ _ _ _ => pg_name (i := 3) nd rfl (Or.inl rfl)) (fun _ _ _ _ _ => pts_one (pt_cmpR op_ne (pv 3) (pv 1) (nomark _))) (fun _ _ _ _ _ => pv 3)) rfl)))
      (pss_cons (ps_dput hu (pv 0) pe_str (pe_ifExp (pt_cmpR op_eq (pe_dget hu (pv 0) pe_str (fun _ _ => rfl)) (pv 1) (nomark _)) pe_non (pe_dget hu (pv 0) pe_str (fun _ _ => rfl))) rfl)
      (pss_cons (ps_expr (pe_call GL hr (by rfl) T.g_l_look T.d_l_look.F.kp T.d_l_look.b .nil pass0 (pa_cons (pv 0) (pa_cons pe_non pa_nil))))
      (pss_cons (ps_dput hu (pv 0) pe_str (pe_lc (own := [("_law_one", 3)]) (g := gName 3) rfl nd (pi_list (pe_dget hu (pv 0) pe_str (fun _ _ => rfl))) (blkOk_by (own := [("_law_one", 3)]) (N := n_l_parted) (sc := defScope s_l_parted) (by decide +kernel))
          (fun _ _ _ _ _ => pg_name (i := 3) nd rfl (Or.inl rfl)) (fun _ _ _ _ _ => pts_one (pt_cmpR op_ne (pv 3) (pv 1) (nomark _))) (fun _ _ _ _ _ => pv 3)) rfl)
      (pss_cons (ps_expr (pe_call GS hr3 (by rfl) T.g_l_shut T.d_l_shut.F.kp T.d_l_shut.b .nil pass0 (pa_cons (pv 0) pa_nil)))
      (pss_one (ps_ret pe_bl)))))))), ?_⟩
    have es : stepR g (.part h) = if h ∈ g.keys then some (partB (look (partA g h) none) h) else none := rfl
    have M0 := MS.start M
    obtain ⟨kvs, hd, hp⟩ := id M.nr
    refine ⟨_, rfl, _, rfl, a.p, _, rfl, M.get_heard, a.near, _, rfl, DGet.k (k := Sum.inr h) hd, _, rfl, ?_⟩
    rw [near_some hp]
    by_cases m : h ∈ g.near.map (·.1)
    · rw [decide_eq_true m]
      refine iteF ?_
      have k' := k _ (by rw [es]; exact if_pos m)
      obtain ⟨v, hv, _⟩ := near_get hp m
      refine ⟨_, rfl, a.p, _, rfl, M.get_heard, a.near, rfl, .inl ⟨_, .inl hd⟩, _, rfl, kvs, Sum.inr h, v, hd, rfl, hv, ?_⟩
      have M1 := M0.in_heard (l := nearDrop g.near h) (xs := dropK kvs (Sum.inr h : Key)) (near_dropK hp)
      generalize upd H a.near (.dK (dropK kvs (Sum.inr h : Key))) = H1 at M1 ⊢
      refine ⟨(by show 3 ≤ sizeLine; decide), fun q hq => ?_⟩
      have M2 := M1.new (u := .lst [.str "sure", .str "owe", .str "seats"]) hq
      refine ⟨q, rfl, ⟨_, SqL.of upd_same⟩, for_list (K := K) (a := q) (xs := [.str "sure", .str "owe", .str "seats"]) (fun i σ H' => ∃ v2 v3 b, σ = [some (.ref b.p), some (.str h), v2, v3] ∧ b.p = a.p ∧ MS K a.ft H H' b (partG g h i) ∧ H' q = some (.lst [.str "sure", .str "owe", .str "seats"]) ∧ q ∉ b.ft)
        ⟨none, none, a, rfl, rfl, M2, upd_same, M1.m.notNew hq⟩ (fun i σ H' _ ⟨_, _, _, _, _, _, e, _⟩ => SqL.of e) ?_ ?_⟩
      · rintro i x σ H' hi ⟨v2, v3, b, rfl, eb, MB, e1, e2⟩
        have step : ∀ (D : Addr) (l : List Str) (key : Str) (c : GA) (g' : Ha.G), H' D = none → c.p = b.p → (∀ z, z ∈ c.ft → z ∈ b.ft ∨ z = D) → (∃ H2, DPut (upd H' D (.lst (l.map V.str))) b.p (.str key) (.ref D) H2 ∧ MS K a.ft H H2 c g' ∧ ∀ z u, (upd H' D (.lst (l.map V.str))) z = some u → z ≠ b.p → H2 z = some u) → partG g h (i + 1) = g' →
            ∃ a_1 H4, V.ref b.p = V.ref a_1 ∧ DPut (upd H' D (.lst (l.map V.str))) a_1 (.str key) (.ref D) H4 ∧ ∃ y2 y3 b', [some (V.ref b.p), some (V.str h), some (.str key), v3] = [some (.ref b'.p), some (.str h), y2, y3] ∧ b'.p = a.p ∧ MS K a.ft H H4 b' (partG g h (i + 1)) ∧ H4 q = some (.lst [.str "sure", .str "owe", .str "seats"]) ∧ q ∉ b'.ft := by
          rintro D l key c g' hD ec hc ⟨H2, hd2, M3, kp⟩ eg
          refine ⟨b.p, H2, rfl, hd2, some (.str key), v3, c, by rw [ec], ec.trans eb, eg ▸ M3, kp _ _ ?_ ?_, fun z => ?_⟩
          · rw [upd_ne (ne_of_none e1 hD)]
            exact e1
          · intro z
            exact e2 (by rw [z]; simp [GA.ft])
          · rcases hc q z with z | z
            · exact e2 z
            · rw [z, hD] at e1
              cases e1
        match i, hi with
        | 0, hi =>
          cases hi
          have MB : MS K a.ft H H' b { g with near := nearDrop g.near h } := MB
          obtain ⟨l, lp, hk⟩ := id MB.m.kn
          have lp : l.Perm g.knows := lp
          refine ⟨_, rfl, _, rfl, b.p, _, rfl, MB.m.get_sure, b.knows, rfl, ⟨_, SqL.of hk⟩, fun D hD => ?_⟩
          refine lcFilter (h := h) (SqL.of hk) hD (by rw [lp.length_eq]; exact Nat.le_trans hl.k (by omega)) ?_
          refine ⟨_, rfl, _, rfl, ?_⟩
          obtain ⟨x1, H4, x2, x3, y2, y3, c, x4⟩ := step D _ "sure" { b with knows := D } (partG g h 1) hD rfl (fun z hz => by simp only [GA.ft, List.mem_cons, List.not_mem_nil, or_false] at hz ⊢; grind) ((MB.new hD).put_sure (q := D) upd_same (lp.filter fun x => decide (x ≠ h)) (MB.m.notNew hD) (MB.fresh hD)) rfl
          exact ⟨x1, H4, x2, x3, y2, y3, c, x4⟩
        | 1, hi =>
          cases hi
          have MB : MS K a.ft H H' b { g with near := nearDrop g.near h, knows := g.knows.filter fun x => decide (x ≠ h) } := MB
          refine ⟨_, rfl, _, rfl, b.p, _, rfl, MB.m.get_owe, b.debts, rfl, ⟨_, SqL.of MB.m.db⟩, fun D hD => ?_⟩
          refine lcFilter (h := h) (SqL.of MB.m.db) hD (Nat.le_trans hl.d (by omega)) ?_
          refine ⟨_, rfl, _, rfl, ?_⟩
          obtain ⟨x1, H4, x2, x3, y2, y3, c, x4⟩ := step D _ "owe" { b with debts := D } (partG g h 2) hD rfl (fun z hz => by simp only [GA.ft, List.mem_cons, List.not_mem_nil, or_false] at hz ⊢; grind) ((MB.new hD).put_owe (q := D) upd_same (MB.m.notNew hD) (MB.fresh hD)) rfl
          exact ⟨x1, H4, x2, x3, y2, y3, c, x4⟩
        | 2, hi =>
          cases hi
          have MB : MS K a.ft H H' b { g with near := nearDrop g.near h, knows := g.knows.filter fun x => decide (x ≠ h), debts := g.debts.filter fun x => decide (x ≠ h) } := MB
          refine ⟨_, rfl, _, rfl, b.p, _, rfl, MB.m.get_seats, b.seats, rfl, ⟨_, SqL.of MB.m.st⟩, fun D hD => ?_⟩
          refine lcFilter (h := h) (SqL.of MB.m.st) hD (Nat.le_trans hl.s (by omega)) ?_
          refine ⟨_, rfl, _, rfl, ?_⟩
          obtain ⟨x1, H4, x2, x3, y2, y3, c, x4⟩ := step D _ "seats" { b with seats := D } (partG g h 3) hD rfl (fun z hz => by simp only [GA.ft, List.mem_cons, List.not_mem_nil, or_false] at hz ⊢; grind) ((MB.new hD).put_seats (q := D) upd_same (MB.m.notNew hD) (MB.fresh hD)) rfl
          exact ⟨x1, H4, x2, x3, y2, y3, c, x4⟩
        | n + 3, hi => cases hi
      · rintro σ H' ⟨v2, v3, b, rfl, eb, MB, _, _⟩
        have MB : MS K a.ft H H' b (partG g h 3) := MB
        refine why_rd MB.m rfl rfl ?_
        obtain ⟨H2, hd2, M3, _⟩ := MB.put_why (if g.source = some h then none else g.source)
        refine ⟨_, rfl, b.p, H2, rfl, hd2, ?_⟩
        have M3 : MS K a.ft H H2 b (partA g h) := M3
        have okA := ok_partA (h := h) ok
        have hlA := fit_partA (h := h) hl
        refine ⟨_, rfl, b, _, none, rfl, M3.m, ⟨okA.toBase, (fun _ e => nomatch e), hlA.mono (by omega) (by decide) (by decide)⟩, ⟨Nat.le_trans hlA.pa (by decide), Nat.le_trans hlA.go (by decide)⟩, fun c H4 ec MM4 f4 => ?_⟩
        have M4 : MS K a.ft H H4 c (look (partA g h) none) := ⟨MM4, M3.f.trans f4⟩
        have ok4 : Ok (look (partA g h) none) := ok_look okA (fun _ e => nomatch e)
        have hl4 := fit_look (c := none) hlA
        rw [partB_shut ok4] at k'
        generalize look (partA g h) none = g4 at M4 ok4 hl4 k'
        rw [← ec]
        refine ⟨_, rfl, c.p, _, rfl, M4.m.get_due, c.waits, rfl, ⟨_, SqL.of M4.m.wt⟩, fun D hD => ?_⟩
        refine lcFilter (h := h) (SqL.of M4.m.wt) hD (Nat.le_trans hl4.w (by omega)) ?_
        obtain ⟨H5, hd5, M5, _⟩ := (M4.new hD).put_due (q := D) upd_same (M4.m.notNew hD) (M4.fresh hD)
        refine ⟨_, rfl, c.p, H5, rfl, hd5, ?_⟩
        have b5 : Base { g4 with waits := g4.waits.filter fun x => decide (x ≠ h) } := { ok4.toBase with nW := (fun x hx => ok4.nW x (List.mem_filter.mp hx).1), wn := ok4.wn.filter _ }
        have hl5 : Fit t (10000 + 2) (0 + 4 * t) { g4 with waits := g4.waits.filter fun x => decide (x ≠ h) } := { hl4 with w := Nat.le_trans (List.length_filter_le _ _) hl4.w }
        refine ⟨_, rfl, { c with waits := D }, _, rfl, M5.m, b5, hl5.mono (by omega) (by omega) (by omega), ok4.op1, fun d H6 ed M6 f6 => ?_⟩
        exact k' d H6 (ed.trans (ec.trans eb)) M6 (M5.f.trans f6)
    · rw [decide_eq_false m]
      exact iteT (kE (by rw [es]; exact if_neg m) H (Same.refl H))
end
end Ha

/-! The law's own defs, seventh part: _law_hears. -/
namespace Ha
open PySem PySem.Spec PyProof.Rows L2
theorem eq_rd {K : PySem.W.Frag} {σ : L2.St} {H : Hp} {i : Nat} {b : Addr} {l : List Str} {x : Str} {Q : Bool → Hp → Prop} (hσ : σ[i]? = some (some (.ref b))) (hb : H b = some (.tup (l.map V.str))) (hL : L7 l) (hx : SeqAt.shaped (tD [x]) = true) (q : ∀ H', Same H H' → Q (decide (l = [x])) H') :
    tTest (tOp (rEqD K) (tVar i) (tTup (tCons (tC (.str x)) tNil))) σ H Q := by
  refine ⟨_, hσ, (by show 1 ≤ sizeLine; decide), fun t ht => ?_⟩
  refine ⟨tD l, tD [x], dp_tup (SqT.of (same_new ht _ _ hb)), dp_tup (SqT.of upd_same), shaped_L7 hL, hx, _, rfl, ?_⟩
  rw [eqv_tD]
  exact q _ (same_new ht)
theorem any_word (l : List Str) : ([tD (lWord wClear), tD (lWord wBarred)].any fun z => PyData.eqv z (tD l)) = decide (l = lWord wClear ∨ l = lWord wBarred) := by
  rw [List.any_cons, List.any_cons, List.any_nil, eqv_tD, eqv_tD, Bool.or_false]
  by_cases c1 : l = lWord wClear
  · rw [decide_eq_true c1.symm, decide_eq_true (Or.inl c1), Bool.true_or]
  · by_cases c2 : l = lWord wBarred
    · rw [decide_eq_true c2.symm, decide_eq_true (Or.inr c2), Bool.or_true]
    · rw [decide_eq_false (fun z => c1 z.symm), decide_eq_false (fun z => c2 z.symm), decide_eq_false (fun z => z.elim c1 c2)]
      rfl
def spLHears (K : PySem.W.Frag) : Sp := fun vs H Q _ => ∃ (a : GA) (g : G) (h : Str) (b : Addr) (l : List Str), vs = [.ref a.p, .str h, .ref b] ∧ Nm h ∧ H b = some (.tup (l.map V.str)) ∧ L7 l ∧ MineAt K H a g ∧ preS g ∧ DoneM K a H (stepR g (.hear h l)) Q
section
variable {P : Program} {w : World} {K : PySem.W.Frag} {mg : Str → Option Value} {base : Heap}
theorem fn_lhears (T : Tx K mg) : FnOk P w K mg base CX0 6 T.d_l_hears.f T.d_l_hears.fd ["_law_mine", "_law_house", "_law_letter"] (spLHears K) := by
  have GL : FnOk P w K mg base CX0 4 T.d_l_look.f T.d_l_look.fd ["_law_mine", "_law_cause"] (spLLook K preL) := fn_llook T
  have GS : FnOk P w K mg base CX0 3 T.d_l_shut.f T.d_l_shut.fd ["_law_mine"] (spLShut K) := fn_lshut T
  have GO : FnOk P w K mg base CX0 5 T.d_l_opened.f T.d_l_opened.fd ["_law_mine", "_law_house"] (spLOpened K) := fn_lopened T
  refine T.d_l_hears.F.ok sc_l_hears (fun vs H Q E h => ?_) (fun cdv A outer s H vs Q E hr h => ?_)
  · obtain ⟨a, g, h, b, l, rfl, _⟩ := h
    rfl
  · obtain ⟨a, g, h, b, l, rfl, hn, hb, hL, M, ⟨ok, t, ht, hl⟩, kE, k⟩ := h
    have nd := sc_l_hears.nd
    have hu := hu_of hr
    have hu65 : (A.deeper (envOfC "_law_hears" (defScope s_l_hears) s.heap.objs.size T.d_l_hears.f cdv)).units + 65 < cLine := by have := hr.un; omega
    have hr4 : Room 4 _ := hr.mono (by decide)
    have hr3 : Room 3 _ := hr.mono (by decide)
    refine ⟨_, pss_cons (ps_if (pt_cmp (pc_dnotin hu (pv 1) (pe_dget hu (pv 0) pe_str (fun _ _ => rfl))) (by rfl)) (pss_one (ps_ret pe_bl)) pss_nil)
      (pss_cons (ps_if (pt_cmpR (op_inD hu65) (pv 2) (pe_lst (pa_cons (pe_tup (pa_cons pe_str (pa_cons pe_str pa_nil))) (pa_cons (pe_tup (pa_cons pe_str (pa_cons pe_str pa_nil))) pa_nil))) (by rfl))
        (pss_cons (ps_if (PW.pt (pw_or (pt_cmp (pc_notN (pe_dget hu (pe_dget hu (pv 0) pe_str (fun _ _ => rfl)) (pv 1) (fun _ _ => rfl)))) (pw_or1 (pt_cmpR op_in_seq (pv 1) (pe_dget hu (pv 0) pe_str (fun _ _ => rfl)) (by rfl))))) (pss_one (ps_ret pe_bl)) pss_nil)
        (pss_cons (ps_dput hu (pv 0) pe_str (pe_op op_add (pe_dget hu (pv 0) pe_str (fun _ _ => rfl)) pe_int) rfl)
        (pss_cons (ps_dput hu (pe_dget hu (pv 0) pe_str (fun _ _ => rfl)) (pv 1) (pe_tup (pa_cons (pe_ix ix_tup (pv 2) pe_int (fun _ _ => rfl)) (pa_cons (pe_dget hu (pv 0) pe_str (fun _ _ => rfl)) pa_nil))) rfl)
        (pss_cons (ps_expr (pe_call GL hr4 (by rfl) T.g_l_look T.d_l_look.F.kp T.d_l_look.b .nil pass0 (pa_cons (pv 0) (pa_cons (pv 1) pa_nil))))
        (pss_one (ps_ret pe_bl)))))) pss_nil)
      (pss_cons (ps_if (PW.pt (pw_and (pt_cmpR (op_eqD hr.units) (pv 2) (pe_tup (pa_cons pe_str pa_nil)) (nomark _)) (pw_and1 (pt_cmp (pc_notN (pe_dget hu (pe_dget hu (pv 0) pe_str (fun _ _ => rfl)) (pv 1) (fun _ _ => rfl)))))))
        (pss_one (ps_ret (pe_call GO hr (by rfl) T.g_l_opened T.d_l_opened.F.kp T.d_l_opened.b .nil pass0 (pa_cons (pv 0) (pa_cons (pv 1) pa_nil))))) pss_nil)
      (pss_cons (ps_if (PW.pt (pw_and (pt_cmpR (op_eqD hr.units) (pv 2) (pe_tup (pa_cons pe_str pa_nil)) (nomark _)) (pw_and1 (pt_cmpR op_in_seq (pv 1) (pe_dget hu (pv 0) pe_str (fun _ _ => rfl)) (by rfl)))))
        (pss_cons (ps_expr (pe_bm PySem.F.plainAttrs_list PySem.F.slot_list_remove PySem.F.type_list_remove (mt_remS hu65) (pe_dget hu (pv 0) pe_str (fun _ _ => rfl)) (pa_cons (pv 1) pa_nil)))
        (pss_cons (ps_expr (pe_call GS hr3 (by rfl) T.g_l_shut T.d_l_shut.F.kp T.d_l_shut.b .nil pass0 (pa_cons (pv 0) pa_nil)))
        (pss_one (ps_ret pe_bl)))) pss_nil)
      (pss_cons (ps_if (PW.pt (pw_and (pt_cmpR (op_eqD hr.units) (pv 2) (pe_tup (pa_cons pe_str pa_nil)) (nomark _)) (pw_and1 (pt_cmpR op_notIn_seq (pv 1) (pe_dget hu (pv 0) pe_str (fun _ _ => rfl)) (by rfl)))))
        (pss_cons (ps_if (PW.pt (pw_or (pt_cmpR op_eq (pe_dget hu (pv 0) pe_str (fun _ _ => rfl)) pe_str (nomark _)) (pw_or1 (pt_val (pe_dget hu (pv 0) pe_str (fun _ _ => rfl))))))
          (pss_one (ps_expr (pe_bm PySem.F.plainAttrs_list PySem.F.slot_list_append PySem.F.type_list_append mt_append (pe_dget hu (pv 0) pe_str (fun _ _ => rfl)) (pa_cons (pv 1) pa_nil))))
          (pss_one (ps_expr (pe_bm PySem.F.plainAttrs_list PySem.F.slot_list_append PySem.F.type_list_append mt_append (pe_dget hu (pv 0) pe_str (fun _ _ => rfl)) (pa_cons (pe_tup (pa_cons (pv 1) (pa_cons (pe_tup (pa_cons pe_str pa_nil)) pa_nil))) pa_nil)))))
        (pss_one (ps_ret pe_bl))) pss_nil)
      (pss_one (ps_ret pe_bl)))))), ?_⟩
    have es : stepR g (.hear h l) = stepH g h l := rfl
    rw [es] at kE k
    have M0 := MS.start M
    obtain ⟨kvs, hd, hp⟩ := id M.nr
    refine ⟨_, rfl, _, rfl, a.p, _, rfl, M.get_heard, a.near, _, rfl, DGet.k (k := Sum.inr h) hd, _, rfl, ?_⟩
    rw [near_some hp]
    by_cases m : h ∈ g.near.map (·.1)
    · rw [decide_eq_true m]
      refine iteF ?_
      have m' : ¬ h ∉ g.keys := fun z => z m
      refine ⟨_, rfl, (by show 2 ≤ sizeLine; decide), fun t1 ht1 => ⟨(by show 2 ≤ sizeLine; decide), fun t2 ht2 => ⟨(by show 2 ≤ sizeLine; decide), fun q hq => ?_⟩⟩⟩
      have M1 : MS K a.ft H (upd (upd (upd H t1 (.tup [.str "word", .str "clear"])) t2 (.tup [.str "word", .str "barred"])) q (.lst [.ref t1, .ref t2])) a g := ((M0.new ht1).new ht2).new hq
      have s1 : Same H (upd (upd (upd H t1 (.tup [.str "word", .str "clear"])) t2 (.tup [.str "word", .str "barred"])) q (.lst [.ref t1, .ref t2])) := ((same_new ht1).trans (same_new ht2)).trans (same_new hq)
      have e1 : (upd (upd (upd H t1 (.tup [.str "word", .str "clear"])) t2 (.tup [.str "word", .str "barred"])) q (.lst [.ref t1, .ref t2])) t1 = some (.tup ((lWord wClear).map V.str)) := same_new hq _ _ (same_new ht2 _ _ upd_same)
      have e2 : (upd (upd (upd H t1 (.tup [.str "word", .str "clear"])) t2 (.tup [.str "word", .str "barred"])) q (.lst [.ref t1, .ref t2])) t2 = some (.tup ((lWord wBarred).map V.str)) := same_new hq _ _ upd_same
      refine ⟨tD l, [tD (lWord wClear), tD (lWord wBarred)], dp_tup (SqT.of (s1 _ _ hb)), .lst (SqL.of upd_same) (.cons (dp_tup (SqT.of e1)) (.cons (dp_tup (SqT.of e2)) .nil)), shaped_L7 hL, by decide +kernel, _, rfl, ?_⟩
      rw [any_word]
      generalize upd (upd (upd H t1 (.tup [.str "word", .str "clear"])) t2 (.tup [.str "word", .str "barred"])) q (.lst [.ref t1, .ref t2]) = H1 at M1 s1 e1 e2 ⊢
      have hb1 := s1 _ _ hb
      obtain ⟨kvs1, hd1, hp1⟩ := id M1.m.nr
      obtain ⟨v, hv, tv⟩ := near_get hp1 m
      have hget : DGet H1 a.near (.str h) (some v) := by
        have z := DGet.k (k := Sum.inr h) hd1
        rw [hv] at z
        exact z
      have hnon : (!decide (v = .non)) = decide (nearAt g.near h ≠ none) := by
        cases hna : nearAt g.near h with
        | none =>
          rw [hna] at tv
          cases tv
          rfl
        | some z =>
          rw [hna] at tv
          obtain ⟨c, rfl, _⟩ := tv
          rfl
      by_cases cw : l = lWord wClear ∨ l = lWord wBarred
      · rw [decide_eq_true cw]
        refine iteT ?_
        obtain ⟨x, hx, rfl⟩ : ∃ x, (x = wClear ∨ x = wBarred) ∧ l = lWord x := by
          rcases cw with e | e
          · exact ⟨_, .inl rfl, e⟩
          · exact ⟨_, .inr rfl, e⟩
        have est : stepH g h (lWord x) = if nearAt g.near h ≠ none ∨ h ∈ g.debts then none else some (hearWord g h x) := by
          unfold stepH
          rw [if_neg m', if_pos cw]
          rfl
        rw [est] at kE k
        refine ⟨_, rfl, a.p, _, rfl, M1.m.get_heard, _, rfl, a.near, v, rfl, hget, _, rfl, ?_⟩
        rw [hnon]
        by_cases c1 : nearAt g.near h ≠ none
        · rw [decide_eq_true c1]
          exact iteT (iteT (kE (if_pos (.inl c1)) H1 s1))
        · rw [decide_eq_false c1]
          refine iteF ?_
          refine ⟨_, rfl, _, rfl, a.p, _, rfl, M1.m.get_owe, a.debts, _, rfl, .inl (SqL.of M1.m.db), rfl, flat_strs _, _, rfl, ?_⟩
          show (if (if false = true then _ else inV (.str h) (g.debts.map V.str)) = true then _ else _)
          rw [if_neg Bool.false_ne_true, inV_strs]
          by_cases c2 : h ∈ g.debts
          · rw [decide_eq_true c2]
            exact iteT (kE (if_pos (.inr c2)) H1 s1)
          · rw [decide_eq_false c2]
            refine iteF ?_
            have k' := k _ (if_neg (fun z => z.elim c1 c2))
            refine ⟨_, rfl, a.p, _, rfl, M1.m.get_count, _, _, rfl, rfl, ?_⟩
            obtain ⟨H2, hd2, M2, kp2⟩ := M1.put_count (g.ears + 1)
            refine ⟨_, rfl, a.p, H2, rfl, hd2, ?_⟩
            have hb2 : H2 b = some (.tup ((lWord x).map V.str)) := kp2 _ _ hb1 fun z => by
              rw [z, M1.m.ob] at hb1
              cases hb1
            refine ⟨_, rfl, b, _, _, .str x, rfl, rfl, SqT.of hb2, rfl, _, rfl, a.p, _, rfl, M2.m.get_count, (by show 2 ≤ sizeLine; decide), fun u hu2 => ?_⟩
            have M3 := M2.new (u := .tup [.str x, .int ((g.ears + 1 : Nat) : Int)]) hu2
            obtain ⟨kvs3, hd3, hp3⟩ := id M3.m.nr
            have kl : kvs3.length < sizeLine := sz5 (by rw [paired_len hp3]; exact Nat.le_trans hl.n (by omega))
            refine ⟨_, rfl, a.p, _, rfl, M3.m.get_heard, _, rfl, a.near, _, rfl, DPut.k (k := Sum.inr h) hd3 kl, ?_⟩
            have M4 := M3.in_heard (l := nearSet g.near h (some (x, g.ears + 1))) (xs := putK kvs3 (Sum.inr h : Key) (.ref u)) (near_putK hp3 m ⟨u, rfl, upd_same⟩)
            change tSeq _ _ _ _ (upd (upd H2 u (.tup [.str x, .int ((g.ears + 1 : Nat) : Int)])) a.near (.dK (putK kvs3 (Sum.inr h : Key) (.ref u))))
            generalize upd (upd H2 u (.tup [.str x, .int ((g.ears + 1 : Nat) : Int)])) a.near (.dK (putK kvs3 (Sum.inr h : Key) (.ref u))) = H4 at M4 ⊢
            have hl4 : Fit t 10000 0 { g with ears := g.ears + 1, near := nearSet g.near h (some (x, g.ears + 1)) } := { hl with n := (by show (nearSet g.near h _).length ≤ t; rw [set_len]; exact hl.n) }
            refine ⟨_, rfl, _, rfl, a, _, some h, rfl, M4.m, ⟨base_word ok.toBase hx, (fun x e => by rw [← Option.some.inj e]; exact hn), hl4.mono (by omega) (by decide) (by decide)⟩, ⟨Nat.le_trans hl4.pa (by decide), Nat.le_trans hl4.go (by decide)⟩, fun c H5 ec MM5 f5 => ?_⟩
            exact k' c H5 ec MM5 (M4.f.trans f5)
      · rw [decide_eq_false cw]
        refine iteF ?_
        have est0 : stepH g h l = if l = lOpen then (if nearAt g.near h = none then none else some (hearOpenB g.opened (hearOpenA g h) h)) else if l = lHeard then (if h ∈ g.waits then some (answered g h) else none) else if l = lChair then (if h ∈ g.seats then none else some (hearChair g h)) else none := by
          unfold stepH
          rw [if_neg m', if_neg cw]
        rw [est0] at kE k
        refine eq_rd rfl hb1 hL (by decide +kernel) fun H2 s2 => ?_
        have M2 := M1.same s2
        have s02 := s1.trans s2
        have hb2 := s2 _ _ hb1
        rw [show ([("open" : Str)] : List Str) = lOpen from rfl]
        by_cases c1 : l = lOpen
        · rw [decide_eq_true c1]
          refine iteT ?_
          rw [if_pos c1] at kE k
          refine ⟨_, rfl, a.p, _, rfl, M2.m.get_heard, _, rfl, a.near, v, rfl, (by
            obtain ⟨kvs2, hd2, hp2⟩ := id M2.m.nr
            have e : H2 a.near = some (.dK kvs1) := s2 _ _ hd1
            have z := DGet.k (k := Sum.inr h) e
            rw [hv] at z
            exact z), _, rfl, ?_⟩
          rw [hnon]
          by_cases c2 : nearAt g.near h = none
          · rw [decide_eq_false (fun z => z c2)]
            refine iteF ?_
            rw [if_pos c2] at kE
            refine eq_rd rfl hb2 hL (by decide +kernel) fun H3 s3 => ?_
            rw [decide_eq_false (by rw [c1]; decide +kernel)]
            refine iteF (iteF ?_)
            refine eq_rd rfl (s3 _ _ hb2) hL (by decide +kernel) fun H4 s4 => ?_
            rw [decide_eq_false (by rw [c1]; decide +kernel)]
            exact iteF (iteF (kE rfl H4 ((s02.trans s3).trans s4)))
          · rw [decide_eq_true c2]
            refine iteT ?_
            rw [if_neg c2] at k
            refine ⟨_, rfl, _, rfl, a, g, h, rfl, hn, m, M2.m, ⟨ok, t, ht, hl⟩, fun c H5 ec MM5 f5 => ?_⟩
            exact k _ rfl c H5 ec MM5 (M2.f.trans f5)
        · rw [decide_eq_false c1]
          refine iteF (iteF ?_)
          rw [if_neg c1] at kE k
          refine eq_rd rfl hb2 hL (by decide +kernel) fun H3 s3 => ?_
          have M3 := M2.same s3
          have s03 := s02.trans s3
          have hb3 := s3 _ _ hb2
          rw [show ([("heard" : Str)] : List Str) = lHeard from rfl]
          by_cases c2 : l = lHeard
          · rw [decide_eq_true c2]
            refine iteT ?_
            rw [if_pos c2] at kE k
            refine ⟨_, rfl, _, rfl, a.p, _, rfl, M3.m.get_due, a.waits, _, rfl, .inl (SqL.of M3.m.wt), rfl, flat_strs _, _, rfl, ?_⟩
            show (if (if false = true then _ else inV (.str h) (g.waits.map V.str)) = true then _ else _)
            rw [if_neg Bool.false_ne_true, inV_strs]
            by_cases c3 : h ∈ g.waits
            · rw [decide_eq_true c3]
              refine iteT ?_
              rw [if_pos c3] at k
              have k' := k _ rfl
              rw [answered_shut ok c3] at k'
              refine ⟨_, rfl, a.p, _, rfl, M3.m.get_due, .inl ⟨rfl, _, SqL.of M3.m.wt⟩, _, rfl, a.waits, g.waits, h, rfl, rfl, M3.m.wt, c3, ?_⟩
              have ef : g.waits.erase h = g.waits.filter fun x => decide (x ≠ h) := by
                rw [List.Nodup.erase_eq_filter ok.wn]
                refine List.filter_congr fun x _ => ?_
                by_cases e : x = h <;> simp [e]
              rw [ef]
              have M4 := M3.in_due (l := g.waits.filter fun x => decide (x ≠ h))
              generalize upd H3 a.waits (.lst ((g.waits.filter fun x => decide (x ≠ h)).map V.str)) = H4 at M4 ⊢
              have b5 : Base { g with waits := g.waits.filter fun x => decide (x ≠ h) } := { ok.toBase with nW := (fun x hx => ok.nW x (List.mem_filter.mp hx).1), wn := ok.wn.filter _ }
              have hl5 : Fit t 10000 0 { g with waits := g.waits.filter fun x => decide (x ≠ h) } := { hl with w := Nat.le_trans (List.length_filter_le _ _) hl.w }
              refine ⟨_, rfl, a, _, rfl, M4.m, b5, hl5.mono (by omega) (by omega) (by omega), ok.op1, fun d H6 ed M6 f6 => ?_⟩
              exact k' d H6 ed M6 (M4.f.trans f6)
            · rw [decide_eq_false c3]
              refine iteF ?_
              rw [if_neg c3] at kE
              refine eq_rd rfl hb3 hL (by decide +kernel) fun H4 s4 => ?_
              rw [decide_eq_false (by rw [c2]; decide +kernel)]
              exact iteF (iteF (kE rfl H4 (s03.trans s4)))
          · rw [decide_eq_false c2]
            refine iteF (iteF ?_)
            rw [if_neg c2] at kE k
            refine eq_rd rfl hb3 hL (by decide +kernel) fun H4 s4 => ?_
            have M4 := M3.same s4
            have s04 := s03.trans s4
            rw [show ([("chair" : Str)] : List Str) = lChair from rfl]
            by_cases c3 : l = lChair
            · rw [decide_eq_true c3]
              refine iteT ?_
              rw [if_pos c3] at kE k
              refine ⟨_, rfl, _, rfl, a.p, _, rfl, M4.m.get_seats, a.seats, _, rfl, .inl (SqL.of M4.m.st), rfl, flat_strs _, _, rfl, ?_⟩
              show (if (if true = true then !inV (.str h) (g.seats.map V.str) else _) = true then _ else _)
              rw [if_pos rfl, inV_strs]
              by_cases c4 : h ∈ g.seats
              · rw [decide_eq_true c4]
                rw [if_pos c4] at kE
                exact iteF (kE rfl H4 s04)
              · rw [decide_eq_false c4]
                refine iteT ?_
                rw [if_neg c4] at k
                have k' := k _ rfl
                unfold hearChair at k'
                have yes : (g.mark = some wIn ∨ g.opened = true) → ∀ D : Ends, D.rt = Q → tSeq (tDrop (tBM K "list" rAppend (tDGet (tVar 0) (tC (.str "seats"))) (tCons (tVar 1) tNil))) (tRet (tC (.bl true))) D [some (.ref a.p), some (.str h), some (.ref b)] H4 := by
                  intro z D eD
                  rw [if_pos z] at k'
                  have hs := M4.m.st
                  refine ⟨_, rfl, a.p, _, rfl, M4.m.get_seats, .inl ⟨rfl, _, SqL.of hs⟩, _, rfl, a.seats, g.seats.map V.str, .str h, rfl, rfl, hs, sz5 (by rw [List.length_map]; exact Nat.le_trans hl.s (by omega)), ?_⟩
                  rw [snocV]
                  have M5 := M4.in_seats (l := g.seats ++ [h])
                  show D.rt _ _
                  rw [eD]
                  exact k' a _ rfl M5.m M5.f
                refine ⟨_, rfl, a.p, oV g.mark, rfl, M4.m.get_word, scal_oV g.mark (some wIn), _, rfl, ?_⟩
                by_cases c5 : g.mark = some wIn
                · rw [decide_eq_true (show oV g.mark = V.str "in" by rw [c5]; rfl)]
                  exact iteT (iteT (yes (.inl c5) _ rfl))
                · rw [decide_eq_false (show ¬ oV g.mark = V.str "in" from fun z => c5 (oV_inj.mp (z : oV g.mark = oV (some wIn))))]
                  refine iteF ?_
                  refine ⟨_, rfl, a.p, _, rfl, M4.m.get_open, _, rfl, ?_⟩
                  cases c6 : g.opened with
                  | true => exact iteT (yes (.inr c6) _ rfl)
                  | false =>
                    refine iteF ?_
                    rw [if_neg (fun z => z.elim c5 fun z => by rw [c6] at z; cases z)] at k'
                    obtain ⟨zs, hz, pz⟩ := id M4.m.go
                    have zl := paired_len pz
                    have zl' : zs.length ≤ 0 := by
                      rw [zl]
                      exact hl.go
                    refine ⟨_, rfl, a.p, _, rfl, M4.m.get_out, .inl ⟨rfl, _, SqL.of hz⟩, _, rfl, (by show 1 ≤ sizeLine; decide), fun q3 hq3 => ⟨(by show 2 ≤ sizeLine; decide), fun u hu2 => ?_⟩⟩
                    have s5 : Same H4 (upd (upd H4 q3 (.tup [.str "back"])) u (.tup [.str h, .ref q3])) := (same_new hq3).trans (same_new hu2)
                    have e5 : (upd (upd H4 q3 (.tup [.str "back"])) u (.tup [.str h, .ref q3])) q3 = some (.tup (lBack.map V.str)) := by
                      rw [upd_ne (ne_of_none upd_same hu2)]
                      exact upd_same
                    refine ⟨a.going, zs, _, rfl, rfl, s5 _ _ hz, sz5 (by omega), ?_⟩
                    have M5 := (M4.same s5).in_out (l := g.going ++ [(h, lBack)]) (xs := zs ++ [.ref u]) ((Paired.mapP pz fun _ _ z => z.stay fun c ys e => s5 _ _ e).snoc ⟨u, q3, rfl, upd_same, .inl e5⟩)
                    exact k' a _ rfl M5.m M5.f
            · rw [decide_eq_false c3]
              rw [if_neg c3] at kE
              exact iteF (iteF (kE rfl H4 s04))
    · rw [decide_eq_false m]
      exact iteT (kE (by unfold stepH; exact if_pos m) H (Same.refl H))
end
end Ha

/-! The law's own defs, eighth part: _law_new, _law_did. -/
namespace Ha
open PySem PySem.Spec PyProof.Rows L2
/-- what is to be done, as the law's tuple -/
def WhatAt (H : Hp) (c : Addr) : What → Prop
  | .wish => H c = some (.tup [.str "wish"])
  | .unwish => H c = some (.tup [.str "unwish"])
  | .join h => H c = some (.tup [.str "join", .str h])
  | .part h => H c = some (.tup [.str "part", .str h])
  | .hear h l => ∃ b, H c = some (.tup [.str "hear", .str h, .ref b]) ∧ H b = some (.tup (l.map V.str))
def GoodW : What → Prop
  | .wish => True
  | .unwish => True
  | .join h => Nm h
  | .part h => Nm h
  | .hear h l => Nm h ∧ L7 l
theorem WhatAt.stay {H H' : Hp} (t : TStay H H') {c : Addr} : ∀ {W : What}, WhatAt H c W → WhatAt H' c W
  | .wish, h => t _ _ h
  | .unwish, h => t _ _ h
  | .join _, h => t _ _ h
  | .part _, h => t _ _ h
  | .hear _ _, ⟨b, h1, h2⟩ => ⟨b, t _ _ h1, t _ _ h2⟩
def spLNew (K : PySem.W.Frag) : Sp := fun vs H Q _ => ∃ n : Str, vs = [.str n] ∧ ∀ a H', MineAt K H' a (g0 n) → Frm [] H a.ft H' → Q (.ref a.p) H'
def spLDid (K : PySem.W.Frag) : Sp := fun vs H Q _ => ∃ (a : GA) (g : G) (c : Addr) (W : What), vs = [.ref a.p, .ref c] ∧ MineAt K H a g ∧ WhatAt H c W ∧ GoodW W ∧ preS (gone g) ∧
  (stepR (gone g) W = none → ∀ a' H', a'.p = a.p → MineAt K H' a' (gone g) → Frm a.ft H a'.ft H' → Q .non H') ∧
  ∀ g', stepR (gone g) W = some g' → ∀ a' H', a'.p = a.p → MineAt K H' a' g' → Frm a.ft H a'.ft H' → Q (.ref a'.going) H'
theorem base_gS (n : Str) : Base (gS n) where
  nd := List.nodup_nil
  num := fun _ h => absurd h (by simp [gS])
  ks := srt_nil
  kn := List.nodup_nil
  nN := fun _ h => absurd h (by simp [gS, G.keys])
  nK := fun _ h => absurd h (by simp [gS])
  nW := fun _ h => absurd h (by simp [gS])
  nD := fun _ h => absurd h (by simp [gS])
  nS := fun _ h => absurd h (by simp [gS])
  nC := fun _ e => nomatch e
  mw := fun _ e => nomatch e
  nP := fun _ h => absurd h (by simp [gS])
  nG := fun _ h => absurd h (by simp [gS])
  wn := List.nodup_nil
theorem ok_gS (n : Str) : Ok (gS n) := { base_gS n with op1 := (fun e => nomatch e), op2 := ⟨(fun e => nomatch e), (fun e => absurd rfl e)⟩ }
theorem ok_g0 (n : Str) : Ok (g0 n) := ok_look (ok_gS n) fun _ e => nomatch e
/-- new addresses since H0 -/
structure Al (H0 H : Hp) (L : List Addr) : Prop where
  nd : L.Nodup
  new : ∀ q ∈ L, H0 q = none
  has : ∀ q ∈ L, H q ≠ none
  keep : ∀ b u, H0 b = some u → H b = some u
theorem Al.start (H : Hp) : Al H H [] := ⟨.nil, fun _ h => absurd h (by simp), fun _ h => absurd h (by simp), fun _ _ h => h⟩
theorem Al.add {H0 H : Hp} {L : List Addr} (A : Al H0 H L) {q : Addr} {u : HO} (hq : H q = none) : Al H0 (upd H q u) (q :: L) := by
  refine ⟨List.nodup_cons.mpr ⟨fun z => A.has q z hq, A.nd⟩, fun b hb => ?_, fun b hb => ?_, fun b v e => ?_⟩
  · rcases List.mem_cons.mp hb with e | hb
    · rw [e]
      cases e2 : H0 q with
      | none => rfl
      | some v =>
        rw [A.keep _ _ e2] at hq
        cases hq
    · exact A.new b hb
  · rcases List.mem_cons.mp hb with e | hb
    · rw [e, upd_same]
      exact fun z => by cases z
    · have n : b ≠ q := fun z => A.has b hb (z ▸ hq)
      rw [upd_ne n]
      exact A.has b hb
  · have e2 := A.keep b v e
    rw [upd_ne (ne_of_none e2 hq)]
    exact e2
theorem Al.set {H0 H : Hp} {L : List Addr} (A : Al H0 H L) {q : Addr} {u : HO} (hq : q ∈ L) : Al H0 (upd H q u) L := by
  refine ⟨A.nd, A.new, fun b hb => ?_, fun b v e => ?_⟩
  · by_cases n : b = q
    · rw [n, upd_same]
      exact fun z => by cases z
    · rw [upd_ne n]
      exact A.has b hb
  · have n : b ≠ q := fun z => by
      rw [z, A.new q hq] at e
      cases e
    rw [upd_ne n]
    exact A.keep b v e
section
variable {P : Program} {w : World} {K : PySem.W.Frag} {mg : Str → Option Value} {base : Heap}
theorem fn_lnew (T : Tx K mg) : FnOk P w K mg base CX0 5 T.d_l_new.f T.d_l_new.fd ["_law_name"] (spLNew K) := by
  have GL : FnOk P w K mg base CX0 4 T.d_l_look.f T.d_l_look.fd ["_law_mine", "_law_cause"] (spLLook K preL) := fn_llook T
  refine T.d_l_new.F.ok sc_l_new (fun vs H Q E h => ?_) (fun cdv A outer s H vs Q E hr h => ?_)
  · obtain ⟨n, rfl, _⟩ := h
    rfl
  · obtain ⟨n, rfl, k⟩ := h
    have nd := sc_l_new.nd
    refine ⟨_, pss_cons (ps_set (i := 1) nd rfl (.inl rfl) (pe_disp (pps_cons pe_str (pv 0) (pps_cons pe_str pe_bl (pps_cons pe_str pe_dnewK (pps_cons pe_str pe_int (pps_cons pe_str pe_non (pps_cons pe_str pe_int (pps_cons pe_str pe_bl (pps_cons pe_str pe_non pps_nil)))))))) (by rfl) (by rfl) (fun z => by cases z) (by decide)))
      (pss_cons (ps_expr (pe_bm PySem.F.plainAttrs_dict PySem.F.slot_dict_update PySem.F.type_dict_update mt_dupdate (pv 1) (pa_cons (pe_disp (pps_cons pe_str (pe_lst pa_nil) (pps_cons pe_str (pe_lst pa_nil) (pps_cons pe_str (pe_lst pa_nil) (pps_cons pe_str (pe_lst pa_nil) (pps_cons pe_str (pe_lst pa_nil) (pps_cons pe_str (pe_lst pa_nil) pps_nil)))))) (by rfl) (by rfl) (fun z => by cases z) (by decide)) pa_nil)))
      (pss_cons (ps_expr (pe_call GL hr (by rfl) T.g_l_look T.d_l_look.F.kp T.d_l_look.b .nil pass0 (pa_cons (pv 1) (pa_cons pe_non pa_nil))))
      (pss_one (ps_ret (pv 1))))), ?_⟩
    intro p hp
    have A0 := (Al.start H).add (u := .dK []) hp
    refine ⟨_, rfl, fun q1 hq1 => ?_⟩
    have np1 : p ≠ q1 := ne_of_none upd_same hq1
    have A1 := A0.add (u := .dK []) hq1
    refine ⟨by rw [upd_ne np1]; exact upd_same, [(Sum.inr "name", .str n), (Sum.inr "wish", .bl false), (Sum.inr "heard", .ref q1), (Sum.inr "count", .int 0), (Sum.inr "word", .non), (Sum.inr "at", .int 0), (Sum.inr "open", .bl false), (Sum.inr "why", .non)], rfl, (by show 8 ≤ 15; decide), ?_⟩
    have A2 := A1.set (q := p) (u := .dK (mergeK [] [(Sum.inr "name", .str n), (Sum.inr "wish", .bl false), (Sum.inr "heard", .ref q1), (Sum.inr "count", .int 0), (Sum.inr "word", .non), (Sum.inr "at", .int 0), (Sum.inr "open", .bl false), (Sum.inr "why", .non)])) (by simp)
    have e1 : (upd (upd (upd H p (.dK [])) q1 (.dK [])) p (.dK (mergeK [] [(Sum.inr "name", .str n), (Sum.inr "wish", .bl false), (Sum.inr "heard", .ref q1), (Sum.inr "count", .int 0), (Sum.inr "word", .non), (Sum.inr "at", .int 0), (Sum.inr "open", .bl false), (Sum.inr "why", .non)]))) q1 = some (.dK []) := by
      rw [upd_ne np1.symm]
      exact upd_same
    have e0 : (upd (upd (upd H p (.dK [])) q1 (.dK [])) p (.dK (mergeK [] [(Sum.inr "name", .str n), (Sum.inr "wish", .bl false), (Sum.inr "heard", .ref q1), (Sum.inr "count", .int 0), (Sum.inr "word", .non), (Sum.inr "at", .int 0), (Sum.inr "open", .bl false), (Sum.inr "why", .non)]))) p = some (.dK [(Sum.inr "name", .str n), (Sum.inr "wish", .bl false), (Sum.inr "heard", .ref q1), (Sum.inr "count", .int 0), (Sum.inr "word", .non), (Sum.inr "at", .int 0), (Sum.inr "open", .bl false), (Sum.inr "why", .non)]) := upd_same
    change tSeq _ _ _ _ (upd (upd (upd H p (.dK [])) q1 (.dK [])) p (.dK (mergeK [] [(Sum.inr "name", .str n), (Sum.inr "wish", .bl false), (Sum.inr "heard", .ref q1), (Sum.inr "count", .int 0), (Sum.inr "word", .non), (Sum.inr "at", .int 0), (Sum.inr "open", .bl false), (Sum.inr "why", .non)])))
    generalize upd (upd (upd H p (.dK [])) q1 (.dK [])) p (.dK (mergeK [] [(Sum.inr "name", .str n), (Sum.inr "wish", .bl false), (Sum.inr "heard", .ref q1), (Sum.inr "count", .int 0), (Sum.inr "word", .non), (Sum.inr "at", .int 0), (Sum.inr "open", .bl false), (Sum.inr "why", .non)])) = H2 at A2 e1 e0 ⊢
    refine ⟨_, rfl, .inr (.inr (.inl ⟨rfl, .inl ⟨_, e0⟩⟩)), fun p2 hp2 => ?_⟩
    have A3 := A2.add (u := .dK []) hp2
    refine ⟨Nat.zero_le _, fun q2 hq2 => ⟨Nat.zero_le _, fun q3 hq3 => ⟨Nat.zero_le _, fun q4 hq4 => ⟨Nat.zero_le _, fun q5 hq5 => ⟨Nat.zero_le _, fun q6 hq6 => ⟨Nat.zero_le _, fun q7 hq7 => ?_⟩⟩⟩⟩⟩⟩
    have A4 := (((((A3.add (u := .lst []) hq2).add (u := .lst []) hq3).add (u := .lst []) hq4).add (u := .lst []) hq5).add (u := .lst []) hq6).add (u := .lst []) hq7
    have s7 := same_new (o := .lst []) hq7
    have s6 := (same_new (o := .lst []) hq6).trans s7
    have s5 := (same_new (o := .lst []) hq5).trans s6
    have s4 := (same_new (o := .lst []) hq4).trans s5
    have s3 := (same_new (o := .lst []) hq3).trans s4
    have s2 := (same_new (o := .lst []) hq2).trans s3
    have e2 := s3 _ _ (upd_same (a := q2))
    have e3 := s4 _ _ (upd_same (a := q3))
    have e4 := s5 _ _ (upd_same (a := q4))
    have e5 := s6 _ _ (upd_same (a := q5))
    have e6 := s7 _ _ (upd_same (a := q6))
    have ep2 := s2 _ _ (upd_same (a := p2))
    have e0' := s2 _ _ (same_new hp2 _ _ e0)
    have e1' := s2 _ _ (same_new hp2 _ _ e1)
    refine ⟨ep2, [(Sum.inr "sure", .ref q2), (Sum.inr "due", .ref q3), (Sum.inr "owe", .ref q4), (Sum.inr "seats", .ref q5), (Sum.inr "past", .ref q6), (Sum.inr "out", .ref q7)], rfl, (by show 6 ≤ 15; decide), ?_⟩
    have e7 := upd_same (H := upd (upd (upd (upd (upd (upd H2 p2 (.dK [])) q2 (.lst [])) q3 (.lst [])) q4 (.lst [])) q5 (.lst [])) q6 (.lst [])) (a := q7) (o := .lst [])
    have nd := A4.nd
    have nd2 := nd
    simp only [List.nodup_cons, List.mem_cons, List.not_mem_nil, or_false, not_or, not_false_eq_true, and_true, List.nodup_nil] at nd
    have npp : p ≠ p2 := by grind
    generalize upd (upd (upd (upd (upd (upd (upd H2 p2 (.dK [])) q2 (.lst [])) q3 (.lst [])) q4 (.lst [])) q5 (.lst [])) q6 (.lst [])) q7 (.lst []) = H7 at A4 e2 e3 e4 e5 e6 e7 ep2 e0' e1' ⊢
    have A5 := A4.set (q := p2) (u := .dK [(Sum.inr "sure", .ref q2), (Sum.inr "due", .ref q3), (Sum.inr "owe", .ref q4), (Sum.inr "seats", .ref q5), (Sum.inr "past", .ref q6), (Sum.inr "out", .ref q7)]) (by simp)
    refine ⟨p, p2, _, [(Sum.inr "sure", .ref q2), (Sum.inr "due", .ref q3), (Sum.inr "owe", .ref q4), (Sum.inr "seats", .ref q5), (Sum.inr "past", .ref q6), (Sum.inr "out", .ref q7)], rfl, rfl, npp, (by rw [upd_ne npp]; exact e0'), upd_same, (by show 14 ≤ sizeLine; decide), (by show 14 ≤ sizeLine; decide), ?_⟩
    have A6 := A5.set (q := p) (u := .dK (mK ⟨p, p, q1, q2, q3, q4, q5, q6, q7⟩ (gS n))) (by simp)
    change tSeq _ _ _ _ (upd (upd H7 p2 (.dK [(Sum.inr "sure", .ref q2), (Sum.inr "due", .ref q3), (Sum.inr "owe", .ref q4), (Sum.inr "seats", .ref q5), (Sum.inr "past", .ref q6), (Sum.inr "out", .ref q7)])) p (.dK (mK ⟨p, p, q1, q2, q3, q4, q5, q6, q7⟩ (gS n))))
    have tr : ∀ q u, H7 q = some u → q ≠ p → q ≠ p2 → (upd (upd H7 p2 (.dK [(Sum.inr "sure", .ref q2), (Sum.inr "due", .ref q3), (Sum.inr "owe", .ref q4), (Sum.inr "seats", .ref q5), (Sum.inr "past", .ref q6), (Sum.inr "out", .ref q7)])) p (.dK (mK ⟨p, p, q1, q2, q3, q4, q5, q6, q7⟩ (gS n)))) q = some u := fun q u e n1 n2 => by
      rw [upd_ne n1, upd_ne n2]
      exact e
    have M : MineAt K (upd (upd H7 p2 (.dK [(Sum.inr "sure", .ref q2), (Sum.inr "due", .ref q3), (Sum.inr "owe", .ref q4), (Sum.inr "seats", .ref q5), (Sum.inr "past", .ref q6), (Sum.inr "out", .ref q7)])) p (.dK (mK ⟨p, p, q1, q2, q3, q4, q5, q6, q7⟩ (gS n)))) ⟨p, p, q1, q2, q3, q4, q5, q6, q7⟩ (gS n) :=
      { ob := upd_same
        nr := ⟨[], tr q1 _ e1' (by grind) (by grind), .nil⟩
        kn := ⟨[], List.Perm.refl _, tr q2 _ e2 (by grind) (by grind)⟩
        wt := tr q3 (.lst []) e3 (by grind) (by grind)
        db := tr q4 (.lst []) e4 (by grind) (by grind)
        st := tr q5 (.lst []) e5 (by grind) (by grind)
        pa := ⟨[], tr q6 _ e6 (by grind) (by grind), .nil⟩
        go := ⟨[], tr q7 _ e7 (by grind) (by grind), .nil⟩
        nd := by
          simp only [GA.ft, List.nodup_cons, List.mem_cons, List.not_mem_nil, or_false, not_or, not_false_eq_true, and_true, List.nodup_nil]
          grind }
    generalize upd (upd H7 p2 (.dK [(Sum.inr "sure", .ref q2), (Sum.inr "due", .ref q3), (Sum.inr "owe", .ref q4), (Sum.inr "seats", .ref q5), (Sum.inr "past", .ref q6), (Sum.inr "out", .ref q7)])) p (.dK (mK ⟨p, p, q1, q2, q3, q4, q5, q6, q7⟩ (gS n))) = H9 at A6 M ⊢
    have f : Frm [] H (GA.ft ⟨p, p, q1, q2, q3, q4, q5, q6, q7⟩) H9 := ⟨fun b xs e => A6.keep b _ e, fun b u e _ => A6.keep b u e, fun b hb => .inr (A6.new b (by
      simp only [GA.ft, List.mem_cons, List.not_mem_nil, or_false] at hb ⊢
      grind))⟩
    refine ⟨_, rfl, ⟨p, p, q1, q2, q3, q4, q5, q6, q7⟩, gS n, none, rfl, M, ⟨?_, (fun _ e => nomatch e), ⟨Nat.zero_le _, Nat.zero_le _, Nat.zero_le _, Nat.zero_le _, Nat.zero_le _, Nat.zero_le _, Nat.zero_le _⟩⟩, ⟨Nat.zero_le _, Nat.zero_le _⟩, fun b H10 eb M10 f10 => ?_⟩
    · exact base_gS n
    · refine ⟨_, rfl, ?_⟩
      have eb' : b.p = p := eb
      rw [← eb']
      exact k b H10 M10 (f.trans f10)
end
end Ha

/-! The law's own defs, ninth part: _law_did. -/
namespace Ha
open PySem PySem.Spec PyProof.Rows L2
section
variable {P : Program} {w : World} {K : PySem.W.Frag} {mg : Str → Option Value} {base : Heap}
theorem fn_ldid (T : Tx K mg) : FnOk P w K mg base CX0 7 T.d_l_did.f T.d_l_did.fd ["_law_mine", "_law_what_here"] (spLDid K) := by
  have GL : FnOk P w K mg base CX0 4 T.d_l_look.f T.d_l_look.fd ["_law_mine", "_law_cause"] (spLLook K preL) := fn_llook T
  have GH : FnOk P w K mg base CX0 6 T.d_l_hears.f T.d_l_hears.fd ["_law_mine", "_law_house", "_law_letter"] (spLHears K) := fn_lhears T
  have GJ : FnOk P w K mg base CX0 5 T.d_l_joined.f T.d_l_joined.fd ["_law_mine", "_law_house"] (spLJoined K) := fn_ljoined T
  have GP : FnOk P w K mg base CX0 5 T.d_l_parted.f T.d_l_parted.fd ["_law_mine", "_law_house"] (spLParted K) := fn_lparted T
  refine T.d_l_did.F.ok sc_l_did (fun vs H Q E h => ?_) (fun cdv A outer s H vs Q E hr h => ?_)
  · obtain ⟨a, g, c, W, rfl, _⟩ := h
    rfl
  · obtain ⟨a, g, c, W, rfl, M, hc, hW, ⟨ok, t, ht, hl⟩, kE, k⟩ := h
    have nd := sc_l_did.nd
    have hu := hu_of hr
    have hr4 : Room 4 _ := hr.mono (by decide)
    have hr5 : Room 5 _ := hr.mono (by decide)
    refine ⟨_, pss_cons (ps_dput hu (pv 0) pe_str (pe_lst pa_nil) rfl)
      (pss_cons (ps_if (pt_cmpR op_in_seq (pe_ix ix_tup (pv 1) pe_int (fun _ _ => rfl)) (pe_lst (pa_cons pe_str (pa_cons pe_str pa_nil))) (by rfl))
        (pss_cons (ps_set (i := 2) nd rfl (.inl rfl) (pe_cmpR op_eq (pe_dget hu (pv 0) pe_str (fun _ _ => rfl)) (pe_cmpR op_eq (pe_ix ix_tup (pv 1) pe_int (fun _ _ => rfl)) pe_str (nomark _)) (nomark _)))
        (pss_one (ps_if (pt_val (pv 2))
          (pss_cons (ps_dput hu (pv 0) pe_str (pe_not (pe_dget hu (pv 0) pe_str (fun _ _ => rfl))) rfl)
          (pss_one (ps_expr (pe_call GL hr4 (by rfl) T.g_l_look T.d_l_look.F.kp T.d_l_look.b .nil pass0 (pa_cons (pv 0) (pa_cons pe_non pa_nil)))))) pss_nil)))
        (pss_one (ps_if (pt_cmpR op_eq (pe_ix ix_tup (pv 1) pe_int (fun _ _ => rfl)) pe_str (nomark _))
          (pss_one (ps_set (i := 2) nd rfl (.inl rfl) (pe_call GH hr (by rfl) T.g_l_hears T.d_l_hears.F.kp T.d_l_hears.b .nil pass0 (pa_cons (pv 0) (pa_cons (pe_ix ix_tup (pv 1) pe_int (fun _ _ => rfl)) (pa_cons (pe_ix ix_tup (pv 1) pe_int (fun _ _ => rfl)) pa_nil))))))
          (pss_one (ps_set (i := 2) nd rfl (.inl rfl) (pe_ifExp (pt_cmpR op_eq (pe_ix ix_tup (pv 1) pe_int (fun _ _ => rfl)) pe_str (nomark _))
            (pe_call GJ hr5 (by rfl) T.g_l_joined T.d_l_joined.F.kp T.d_l_joined.b .nil pass0 (pa_cons (pv 0) (pa_cons (pe_ix ix_tup (pv 1) pe_int (fun _ _ => rfl)) pa_nil)))
            (pe_call GP hr5 (by rfl) T.g_l_parted T.d_l_parted.F.kp T.d_l_parted.b .nil pass0 (pa_cons (pv 0) (pa_cons (pe_ix ix_tup (pv 1) pe_int (fun _ _ => rfl)) pa_nil)))))))))
      (pss_one (ps_ret (pe_ifExp (pt_val (pv 2)) (pe_dget hu (pv 0) pe_str (fun _ _ => rfl)) pe_non)))), ?_⟩
    have M0 := MS.start M
    refine ⟨Nat.zero_le _, fun q hq => ?_⟩
    obtain ⟨H1, hd1, M1, kp1⟩ := (M0.new (u := .lst []) hq).put_out (q := q) upd_same (M.notNew hq) (M0.fresh hq)
    have M1 : MS K a.ft H H1 { a with going := q } (gone g) := M1
    have ts : TStay H H1 := fun b xs e => M1.f.tup b xs e
    have hc1 := hc.stay ts
    refine ⟨_, rfl, a.p, H1, rfl, hd1, ?_⟩
    generalize eb : ({ a with going := q } : GA) = b at M1
    have ep : b.p = a.p := by rw [← eb]
    rw [← ep] at kE k ⊢
    generalize gone g = g1 at M1 ok hl kE k
    -- the end
    have fin1 : ∀ g', stepR g1 W = some g' → ∀ (c' : GA) (H' : Hp) (D : Ends), D.rt = Q → c'.p = b.p → MineAt K H' c' g' → Frm a.ft H c'.ft H' → tRet (tIf (tB (tVar 2)) (tDGet (tVar 0) (tC (.str "out"))) (tC .non)) D [some (.ref b.p), some (.ref c), some (.bl true)] H' := by
      intro g' e c' H' D eD ec M' f'
      rw [← ec]
      refine ⟨_, rfl, true, rfl, iteT ⟨_, rfl, c'.p, _, rfl, M'.get_out, ?_⟩⟩
      rw [eD]
      exact k g' e c' H' ec M' f'
    have fin0 : stepR g1 W = none → ∀ (c' : GA) (H' : Hp) (D : Ends), D.rt = Q → c'.p = b.p → MineAt K H' c' g1 → Frm a.ft H c'.ft H' → tRet (tIf (tB (tVar 2)) (tDGet (tVar 0) (tC (.str "out"))) (tC .non)) D [some (.ref b.p), some (.ref c), some (.bl false)] H' := by
      intro e c' H' D eD ec M' f'
      refine ⟨_, rfl, false, rfl, iteF ?_⟩
      show D.rt _ _
      rw [eD]
      exact kE e c' H' ec M' f'
    cases W with
    | wish =>
      have hc1 : H1 c = some (.tup [.str "wish"]) := hc1
      refine ⟨_, rfl, c, _, _, .str "wish", rfl, rfl, SqT.of hc1, rfl, (by show 2 ≤ sizeLine; decide), fun q2 hq2 => ⟨q2, _, rfl, .inl (SqL.of upd_same), rfl, rfl, true, (by rfl), iteT ?_⟩⟩
      have M2 := M1.new (u := .lst [.str "wish", .str "unwish"]) hq2
      have hc2 := same_new (o := .lst [.str "wish", .str "unwish"]) hq2 _ _ hc1
      generalize upd H1 q2 (.lst [.str "wish", .str "unwish"]) = H2 at M2 hc2 ⊢
      refine ⟨_, rfl, b.p, _, rfl, M2.m.get_wish, _, rfl, c, _, _, .str "wish", rfl, rfl, SqT.of hc2, rfl, rfl, rfl, ?_⟩
      have e1 : decide (V.str ("wish" : Str) = V.str "unwish") = false := by decide +kernel
      rw [e1]
      have es : stepR g1 .wish = if g1.wished = true then none else some (look { g1 with wished := true } none) := rfl
      cases hw : g1.wished with
      | true =>
        have es2 : stepR g1 .wish = none := by rw [es, if_pos hw]
        rw [show decide (V.bl true = V.bl false) = false from rfl]
        refine ⟨_, rfl, false, rfl, iteF ?_⟩
        exact fin0 es2 b H2 _ rfl rfl M2.m M2.f
      | false =>
        have es2 : stepR g1 .wish = some (look { g1 with wished := true } none) := by rw [es, if_neg (by rw [hw]; exact Bool.false_ne_true)]
        rw [show decide (V.bl false = V.bl false) = true from rfl]
        refine ⟨_, rfl, true, rfl, iteT ?_⟩
        have hg : DGet H2 b.p (.str "wish") (some (.bl false)) := by
          have z := M2.m.get_wish
          rw [hw] at z
          exact z
        refine ⟨_, rfl, b.p, _, rfl, hg, _, rfl, ?_⟩
        obtain ⟨H3, hd3, M3, _⟩ := M2.put_wish true
        refine ⟨_, rfl, b.p, H3, rfl, hd3, ?_⟩
        have hl3 : Fit t 10000 0 { g1 with wished := true } := { hl with }
        refine ⟨_, rfl, b, _, none, rfl, M3.m, ⟨{ ok.toBase with }, (fun _ e => nomatch e), hl3.mono (by omega) (by decide) (by decide)⟩, ⟨Nat.le_trans hl3.pa (by decide), Nat.le_trans hl3.go (by decide)⟩, fun c' H4 ec M4 f4 => ?_⟩
        exact fin1 _ es2 c' H4 _ rfl ec M4 (M3.f.trans f4)
    | unwish =>
      have hc1 : H1 c = some (.tup [.str "unwish"]) := hc1
      refine ⟨_, rfl, c, _, _, .str "unwish", rfl, rfl, SqT.of hc1, rfl, (by show 2 ≤ sizeLine; decide), fun q2 hq2 => ⟨q2, _, rfl, .inl (SqL.of upd_same), rfl, rfl, true, (by rfl), iteT ?_⟩⟩
      have M2 := M1.new (u := .lst [.str "wish", .str "unwish"]) hq2
      have hc2 := same_new (o := .lst [.str "wish", .str "unwish"]) hq2 _ _ hc1
      generalize upd H1 q2 (.lst [.str "wish", .str "unwish"]) = H2 at M2 hc2 ⊢
      refine ⟨_, rfl, b.p, _, rfl, M2.m.get_wish, _, rfl, c, _, _, .str "unwish", rfl, rfl, SqT.of hc2, rfl, rfl, rfl, ?_⟩
      have e1 : decide (V.str ("unwish" : Str) = V.str "unwish") = true := by decide +kernel
      rw [e1]
      have es : stepR g1 .unwish = if g1.wished = true then some (look { g1 with wished := false } none) else none := rfl
      cases hw : g1.wished with
      | true =>
        have es2 : stepR g1 .unwish = some (look { g1 with wished := false } none) := by rw [es, if_pos hw]
        rw [show decide (V.bl true = V.bl true) = true from rfl]
        refine ⟨_, rfl, true, rfl, iteT ?_⟩
        have hg : DGet H2 b.p (.str "wish") (some (.bl true)) := by
          have z := M2.m.get_wish
          rw [hw] at z
          exact z
        refine ⟨_, rfl, b.p, _, rfl, hg, _, rfl, ?_⟩
        obtain ⟨H3, hd3, M3, _⟩ := M2.put_wish false
        refine ⟨_, rfl, b.p, H3, rfl, hd3, ?_⟩
        have hl3 : Fit t 10000 0 { g1 with wished := false } := { hl with }
        refine ⟨_, rfl, b, _, none, rfl, M3.m, ⟨{ ok.toBase with }, (fun _ e => nomatch e), hl3.mono (by omega) (by decide) (by decide)⟩, ⟨Nat.le_trans hl3.pa (by decide), Nat.le_trans hl3.go (by decide)⟩, fun c' H4 ec M4 f4 => ?_⟩
        exact fin1 _ es2 c' H4 _ rfl ec M4 (M3.f.trans f4)
      | false =>
        have es2 : stepR g1 .unwish = none := by rw [es, if_neg (by rw [hw]; exact Bool.false_ne_true)]
        rw [show decide (V.bl false = V.bl true) = false from rfl]
        refine ⟨_, rfl, false, rfl, iteF ?_⟩
        exact fin0 es2 b H2 _ rfl rfl M2.m M2.f
    | join h =>
      have hc1 : H1 c = some (.tup [.str "join", .str h]) := hc1
      refine ⟨_, rfl, c, _, _, .str "join", rfl, rfl, SqT.of hc1, rfl, (by show 2 ≤ sizeLine; decide), fun q2 hq2 => ⟨q2, _, rfl, .inl (SqL.of upd_same), rfl, rfl, false, (by rfl), iteF ?_⟩⟩
      have M2 := M1.new (u := .lst [.str "wish", .str "unwish"]) hq2
      have hc2 := same_new (o := .lst [.str "wish", .str "unwish"]) hq2 _ _ hc1
      generalize upd H1 q2 (.lst [.str "wish", .str "unwish"]) = H2 at M2 hc2 ⊢
      refine ⟨_, rfl, c, _, _, .str "join", rfl, rfl, SqT.of hc2, rfl, rfl, false, (by rfl), iteF ?_⟩
      refine ⟨_, rfl, c, _, _, .str "join", rfl, rfl, SqT.of hc2, rfl, rfl, true, (by rfl), iteT ?_⟩
      refine ⟨_, rfl, _, rfl, c, _, _, .str h, rfl, rfl, SqT.of hc2, rfl, b, g1, h, rfl, hW, M2.m, ⟨ok, t, ht, hl⟩, fun e H3 s3 => ?_, fun g' e c' H3 ec M3 f3 => ?_⟩
      · exact fin0 e b H3 _ rfl rfl (M2.same s3).m (M2.same s3).f
      · exact fin1 g' e c' H3 _ rfl ec M3 (M2.f.trans f3)
    | part h =>
      have hc1 : H1 c = some (.tup [.str "part", .str h]) := hc1
      refine ⟨_, rfl, c, _, _, .str "part", rfl, rfl, SqT.of hc1, rfl, (by show 2 ≤ sizeLine; decide), fun q2 hq2 => ⟨q2, _, rfl, .inl (SqL.of upd_same), rfl, rfl, false, (by rfl), iteF ?_⟩⟩
      have M2 := M1.new (u := .lst [.str "wish", .str "unwish"]) hq2
      have hc2 := same_new (o := .lst [.str "wish", .str "unwish"]) hq2 _ _ hc1
      generalize upd H1 q2 (.lst [.str "wish", .str "unwish"]) = H2 at M2 hc2 ⊢
      refine ⟨_, rfl, c, _, _, .str "part", rfl, rfl, SqT.of hc2, rfl, rfl, false, (by rfl), iteF ?_⟩
      refine ⟨_, rfl, c, _, _, .str "part", rfl, rfl, SqT.of hc2, rfl, rfl, false, (by rfl), iteF ?_⟩
      refine ⟨_, rfl, _, rfl, c, _, _, .str h, rfl, rfl, SqT.of hc2, rfl, b, g1, h, rfl, hW, M2.m, ⟨ok, t, ht, hl⟩, fun e H3 s3 => ?_, fun g' e c' H3 ec M3 f3 => ?_⟩
      · exact fin0 e b H3 _ rfl rfl (M2.same s3).m (M2.same s3).f
      · exact fin1 g' e c' H3 _ rfl ec M3 (M2.f.trans f3)
    | hear h l =>
      obtain ⟨lb, hc1, hb1⟩ := hc1
      refine ⟨_, rfl, c, _, _, .str "hear", rfl, rfl, SqT.of hc1, rfl, (by show 2 ≤ sizeLine; decide), fun q2 hq2 => ⟨q2, _, rfl, .inl (SqL.of upd_same), rfl, rfl, false, (by rfl), iteF ?_⟩⟩
      have M2 := M1.new (u := .lst [.str "wish", .str "unwish"]) hq2
      have hc2 := same_new (o := .lst [.str "wish", .str "unwish"]) hq2 _ _ hc1
      have hb2 := same_new (o := .lst [.str "wish", .str "unwish"]) hq2 _ _ hb1
      generalize upd H1 q2 (.lst [.str "wish", .str "unwish"]) = H2 at M2 hc2 hb2 ⊢
      refine ⟨_, rfl, c, _, _, .str "hear", rfl, rfl, SqT.of hc2, rfl, rfl, true, (by rfl), iteT ?_⟩
      refine ⟨_, rfl, _, rfl, c, _, _, .str h, rfl, rfl, SqT.of hc2, rfl, _, rfl, c, _, _, .ref lb, rfl, rfl, SqT.of hc2, rfl, b, g1, h, lb, l, rfl, hW.1, hb2, hW.2, M2.m, ⟨ok, t, ht, hl⟩, fun e H3 s3 => ?_, fun g' e c' H3 ec M3 f3 => ?_⟩
      · exact fin0 e b H3 _ rfl rfl (M2.same s3).m (M2.same s3).f
      · exact fin1 g' e c' H3 _ rfl ec M3 (M2.f.trans f3)
end
end Ha

/-! The law's helpers, first part: _law_dip, _law_pot. -/
namespace Ha
open PySem PySem.Spec PyProof.Rows L2
theorem bits_le {x : Int} {k : Nat} (h0 : 0 ≤ x) (h : x < 2 ^ k) : Builtin.Int.intBits x ≤ k := by
  unfold Builtin.Int.intBits
  split
  · exact Nat.zero_le _
  · rename_i hx
    have hx' : x ≠ 0 := by simpa using hx
    have hn : x.natAbs ≠ 0 := by omega
    have hlt : x.natAbs < 2 ^ k := by
      have e : ((x.natAbs : Nat) : Int) = x := Int.natAbs_of_nonneg h0
      have e2 : ((x.natAbs : Nat) : Int) < ((2 ^ k : Nat) : Int) := by
        rw [e]
        push_cast
        exact h
      exact_mod_cast e2
    exact (Nat.log2_lt hn).mpr hlt
theorem powOk {x : Int} {j : Int} (h0 : 0 ≤ x) (h : x < 2 ^ 200) (hj : 0 ≤ j) (hj2 : j ≤ 5) : CPowW x j := by
  refine ⟨hj, ?_⟩
  have hb := bits_le h0 h
  have : (Builtin.Int.intBits x : Int) ≤ 200 := by exact_mod_cast hb
  have h1 : (Builtin.Int.intBits x : Int) * j ≤ 200 * j := Int.mul_le_mul_of_nonneg_right this hj
  have h2 : (200 : Int) * j ≤ 200 * 5 := Int.mul_le_mul_of_nonneg_left hj2 (by decide)
  refine Int.le_trans h1 (Int.le_trans h2 (by decide))
/-- the pot of draws: no more than n draws beyond its number -/
def PotAt (H : Hp) (pt : Addr) (n : Nat) : Prop := ∃ p0 p1 p2 : Int, H pt = some (.lst [.int p0, .int p1, .int p2]) ∧ 0 ≤ p0 ∧ 0 ≤ p1 ∧ p1 < 2 ^ 160 ∧ 0 ≤ p2 ∧ p2 ≤ n
def spDip : Sp := fun vs H Q _ => ∃ (pt : Addr) (n : Nat) (m : Int), vs = [.ref pt, .int m] ∧ PotAt H pt n ∧ n ≤ 100000 ∧ 0 < m ∧ m ≤ 1000000 ∧ ∀ r H', 0 ≤ r → r < m → PotAt H' pt (n + 1) → Frm [pt] H [pt] H' → Q (.int r) H'
def spPot (K : PySem.W.Frag) : Sp := fun vs H Q _ => ∃ (a : Addr) (ns : List Int) (k : Nat), vs = [.ref a, .int (k : Int)] ∧ SqL K H a (ns.map V.int) ∧ ns.length ≤ 63 ∧ k ≤ 63 ∧ ∀ pt H', H pt = none → PotAt H' pt 0 → Same H H' → Q (.ref pt) H'
section
variable {P : Program} {w : World} {K : PySem.W.Frag} {mg : Str → Option Value} {base : Heap}
theorem fn_dip (T : Tx K mg) : FnOk P w K mg base CX0 1 T.d_l_dip.f T.d_l_dip.fd ["_law_pot_here", "_law_many"] spDip := by
  refine T.d_l_dip.F.ok sc_l_dip (fun vs H Q E h => ?_) (fun cdv A outer s H vs Q E hr h => ?_)
  · obtain ⟨pt, n, m, rfl, _⟩ := h
    rfl
  · obtain ⟨pt, n, m, rfl, ⟨p0, p1, p2, hp, g0, g1, g1', g2, g2'⟩, hn, hm, hm', k⟩ := h
    have nd := sc_l_dip.nd
    refine ⟨_, pss_cons (ps_if (pt_cmpR op_gt (pe_ix ix_list (pv 0) pe_int (fun _ _ => rfl)) pe_int (nomark _))
        (pss_cons (ps_set (i := 2) nd rfl (.inl rfl) (pe_op op_mod (pe_ix ix_list (pv 0) pe_int (fun _ _ => rfl)) (pv 1)))
        (pss_cons (ps_asg (pe_op op_fdiv (pe_ix ix_list (pv 0) pe_int (fun _ _ => rfl)) (pv 1)) (pg_sub (pv 0) pe_int set_list))
        (pss_one (ps_ret (pv 2))))) pss_nil)
      (pss_cons (ps_asg (pe_op op_add (pe_ix ix_list (pv 0) pe_int (fun _ _ => rfl)) pe_int) (pg_sub (pv 0) pe_int set_list))
      (pss_cons (ps_set (i := 3) nd rfl (.inl rfl) (pe_op op_mod (pe_op op_powW (pe_op op_add (pe_ix ix_list (pv 0) pe_int (fun _ _ => rfl)) (pe_op op_mul pe_int (pe_ix ix_list (pv 0) pe_int (fun _ _ => rfl)))) pe_int) (pe_op op_add (pe_op op_pow pe_int pe_int) pe_int)))
      (pss_cons (ps_set (i := 3) nd rfl (.inl rfl) (pe_op op_mod (pe_op op_powW (pe_op op_add (pv 3) (pe_op op_mul pe_int (pe_ix ix_list (pv 0) pe_int (fun _ _ => rfl)))) pe_int) (pe_op op_add (pe_op op_pow pe_int pe_int) pe_int)))
      (pss_one (ps_ret (pe_op op_mod (pe_op op_fdiv (pv 3) pe_int) (pv 1))))))), ?_⟩
    refine ⟨_, rfl, pt, _, _, .int p0, rfl, rfl, SqL.of hp, rfl, _, _, rfl, rfl, _, rfl, ?_⟩
    by_cases c : p0 > 0
    · rw [decide_eq_true c]
      refine iteT ?_
      refine ⟨_, rfl, pt, _, _, .int p0, rfl, rfl, SqL.of hp, rfl, _, rfl, _, _, rfl, rfl, hm, ?_⟩
      refine ⟨_, rfl, pt, _, _, .int p0, rfl, rfl, SqL.of hp, rfl, _, rfl, _, _, rfl, rfl, ⟨hm, by omega⟩, ?_⟩
      refine ⟨_, rfl, pt, _, _, 0, rfl, rfl, hp, rfl, ?_⟩
      refine ⟨_, rfl, ?_⟩
      exact k _ _ (Int.emod_nonneg _ (by omega)) (Int.emod_lt_of_pos _ hm) ⟨p0 / m, p1, p2, upd_same, Int.ediv_nonneg g0 (by omega), g1, g1', g2, by omega⟩ (Frm.upd (by simp) hp trivial)
    · rw [decide_eq_false c]
      refine iteF ?_
      refine ⟨_, rfl, pt, _, _, .int p2, rfl, rfl, SqL.of hp, rfl, _, _, rfl, rfl, _, rfl, pt, _, _, 2, rfl, rfl, hp, rfl, ?_⟩
      have fr : Frm [pt] H [pt] (upd H pt (.lst [.int p0, .int p1, .int (p2 + 1)])) := Frm.upd (by simp) hp trivial
      have hp1 : (upd H pt (.lst [.int p0, .int p1, .int (p2 + 1)])) pt = some (.lst [.int p0, .int p1, .int (p2 + 1)]) := upd_same
      change tSeq _ _ _ _ (upd H pt (.lst [.int p0, .int p1, .int (p2 + 1)]))
      generalize upd H pt (.lst [.int p0, .int p1, .int (p2 + 1)]) = H1 at fr hp1 ⊢
      have q2 : p2 + 1 ≤ 100001 := by omega
      have b1 : 0 ≤ p1 + 573259391 * (p2 + 1) := by omega
      have b2 : p1 + 573259391 * (p2 + 1) < 2 ^ 200 := by
        have : (2 : Int) ^ 160 + 573259391 * 100001 < 2 ^ 200 := by decide
        omega
      refine ⟨_, rfl, pt, _, _, .int p1, rfl, rfl, SqL.of hp1, rfl, _, rfl, pt, _, _, .int (p2 + 1), rfl, rfl, SqL.of hp1, rfl, _, _, rfl, rfl, .inl (by decide), _, _, rfl, rfl, ?_⟩
      refine ⟨_, _, rfl, rfl, powOk b1 b2 (by decide) (by decide), _, _, rfl, rfl, ⟨by decide, by decide, by decide⟩, _, _, rfl, rfl, _, _, rfl, rfl, (by show (0 : Int) < (10 : Int) ^ (41 : Int).toNat + 37; decide), ?_⟩
      have m0 : 0 ≤ (p1 + 573259391 * (p2 + 1)) ^ (3 : Int).toNat % ((10 : Int) ^ (41 : Int).toNat + 37) := Int.emod_nonneg _ (by decide)
      have m1 : (p1 + 573259391 * (p2 + 1)) ^ (3 : Int).toNat % ((10 : Int) ^ (41 : Int).toNat + 37) < 2 ^ 160 := Int.lt_of_lt_of_le (Int.emod_lt_of_pos _ (by decide)) (by decide)
      have key : ∀ mx : Int, 0 ≤ mx → mx < 2 ^ 160 → 0 ≤ mx + 899809363 * (p2 + 1) ∧ mx + 899809363 * (p2 + 1) < 2 ^ 200 := by
        intro mx h0 h1
        have : (2 : Int) ^ 160 + 899809363 * 100001 < 2 ^ 200 := by decide
        exact ⟨by omega, by omega⟩
      have b3 := (key _ m0 m1).1
      have b4 := (key _ m0 m1).2
      refine ⟨_, rfl, _, rfl, pt, _, _, .int (p2 + 1), rfl, rfl, SqL.of hp1, rfl, _, _, rfl, rfl, .inl (by decide), _, _, rfl, rfl, ?_⟩
      refine ⟨_, _, rfl, rfl, powOk b3 b4 (by decide) (by decide), _, _, rfl, rfl, ⟨by decide, by decide, by decide⟩, _, _, rfl, rfl, _, _, rfl, rfl, (by show (0 : Int) < (10 : Int) ^ (42 : Int).toNat + 63; decide), ?_⟩
      refine ⟨_, rfl, _, _, rfl, rfl, ⟨by decide, by decide⟩, _, rfl, _, _, rfl, rfl, hm, ?_⟩
      exact k _ _ (Int.emod_nonneg _ (by omega)) (Int.emod_lt_of_pos _ hm) ⟨p0, p1, p2 + 1, hp1, g0, g1, g1', by omega, by omega⟩ fr
theorem fn_pot (T : Tx K mg) : FnOk P w K mg base CX0 1 T.d_l_pot.f T.d_l_pot.fd ["_law_script", "_law_k"] (spPot K) := by
  refine T.d_l_pot.F.ok sc_l_pot (fun vs H Q E h => ?_) (fun cdv A outer s H vs Q E hr h => ?_)
  · obtain ⟨a, ns, j, rfl, _⟩ := h
    rfl
  · obtain ⟨a, ns, j, rfl, hS, hl, hj, k⟩ := h
    have nd := sc_l_pot.nd
    refine ⟨_, pss_cons (ps_set (i := 2) nd rfl (.inl rfl) pe_int)
      (pss_cons (ps_if (pt_cmpR op_lt (pv 1) (pe_callB call_len_seq (by rfl) T.b_len PySem.boot_len (pa_cons (pv 0) pa_nil)) (nomark _))
        (pss_one (ps_set (i := 2) nd rfl (.inl rfl) (pe_ix ix_list (pv 0) (pv 1) (fun _ _ => rfl)))) pss_nil)
      (pss_one (ps_ret (pe_lst (pa_cons (pe_callB (call_max2 rfl) (by rfl) T.b_max (by decide +kernel) (pa_cons pe_int (pa_cons (pe_op op_sub (pv 2) (pe_op op_pow pe_int pe_int)) pa_nil)))
        (pa_cons (pe_op op_add (pe_op op_add (pe_op op_mul (pe_op op_mod (pv 2) (pe_op op_add (pe_op op_pow pe_int pe_int) pe_int)) pe_int) (pv 1)) pe_int) (pa_cons pe_int pa_nil))))))), ?_⟩
    have fin : ∀ (c : Int) (D : Ends), D.rt = Q → tRet (tLst (tCons (tCB (fun xs H Q => ∃ i j, xs = [.int i, .int j] ∧ Q (.int (if j > i then j else i)) H) (tCons (tC (.int 0)) (tCons (tOp (rI0 fun i j => .int (i - j)) (tVar 2) (tOp (rI CPow fun i j => .int (i ^ j.toNat)) (tC (.int 10)) (tC (.int 18)))) tNil)))
        (tCons (tOp (rI0 fun i j => .int (i + j)) (tOp (rI0 fun i j => .int (i + j)) (tOp (rI CMul fun i j => .int (i * j)) (tOp (rI (fun _ j => 0 < j) fun i j => .int (i % j)) (tVar 2) (tOp (rI0 fun i j => .int (i + j)) (tOp (rI CPow fun i j => .int (i ^ j.toNat)) (tC (.int 10)) (tC (.int 44))) (tC (.int 31)))) (tC (.int 256))) (tVar 1)) (tC (.int 1))) (tCons (tC (.int 0)) tNil)))) D [some (.ref a), some (.int (j : Int)), some (.int c)] H := by
      intro c D eD
      refine ⟨_, rfl, _, _, rfl, rfl, ⟨by decide, by decide, by decide⟩, _, _, rfl, rfl, _, _, rfl, ?_⟩
      refine ⟨_, rfl, _, _, rfl, rfl, ⟨by decide, by decide, by decide⟩, _, _, rfl, rfl, _, _, rfl, rfl, (by show (0 : Int) < (10 : Int) ^ (44 : Int).toNat + 31; decide), ?_⟩
      have m0 : 0 ≤ c % ((10 : Int) ^ (44 : Int).toNat + 31) := Int.emod_nonneg _ (by decide)
      have m1 : c % ((10 : Int) ^ (44 : Int).toNat + 31) < 2 ^ 150 := Int.lt_of_lt_of_le (Int.emod_lt_of_pos _ (by decide)) (by decide)
      have key : ∀ mx : Int, 0 ≤ mx → mx < 2 ^ 150 → 0 ≤ mx * 256 + (j : Int) + 1 ∧ mx * 256 + (j : Int) + 1 < 2 ^ 160 := by
        intro mx h0 h1
        have : (2 : Int) ^ 150 * 256 + 64 < 2 ^ 160 := by decide
        exact ⟨by omega, by omega⟩
      refine ⟨_, _, rfl, rfl, .inr (by decide), _, rfl, _, _, rfl, rfl, _, _, rfl, rfl, ?_⟩
      refine ⟨(by show 3 ≤ sizeLine; decide), fun pt hpt => ?_⟩
      rw [eD]
      refine k pt _ hpt ⟨_, _, 0, upd_same, ?_, (key _ m0 m1).1, (key _ m0 m1).2, by decide, by decide⟩ (same_new hpt)
      split <;> omega
    refine ⟨_, rfl, _, rfl, a, _, rfl, .inl hS, _, _, rfl, rfl, _, rfl, ?_⟩
    by_cases c : j < ns.length
    · have c' : (j : Int) < ((ns.map V.int).length : Nat) := by
        rw [List.length_map]
        omega
      rw [decide_eq_true c']
      refine iteT ?_
      have e : atI (ns.map V.int) ((j : Nat) : Int) = some (V.int ns[j]) := atI_nat (by rw [List.getElem?_map, List.getElem?_eq_getElem c]; rfl)
      refine ⟨_, rfl, _, rfl, a, _, _, _, rfl, rfl, hS, e, ?_⟩
      exact fin _ _ rfl
    · have c' : ¬ (j : Int) < ((ns.map V.int).length : Nat) := by
        rw [List.length_map]
        omega
      rw [decide_eq_false c']
      exact iteF (fin 0 _ rfl)
end
end Ha

/-! The law's helpers, second part: _law_names. -/
namespace Ha
open PySem PySem.Spec PyProof.Rows L2
theorem PotAt.mono {H : Hp} {pt : Addr} {n m : Nat} (p : PotAt H pt n) (h : n ≤ m) : PotAt H pt m := by
  obtain ⟨p0, p1, p2, e, a, b, c, d, f⟩ := p
  exact ⟨p0, p1, p2, e, a, b, c, d, by omega⟩
theorem PotAt.stay {H H' : Hp} {pt : Addr} {n : Nat} (p : PotAt H pt n) (h : ∀ u, H pt = some u → H' pt = some u) : PotAt H' pt n := by
  obtain ⟨p0, p1, p2, e, r⟩ := p
  exact ⟨p0, p1, p2, h _ e, r⟩
theorem PotAt.some {H : Hp} {pt : Addr} {n : Nat} (p : PotAt H pt n) : ∃ u, H pt = some u ∧ noTup u := by
  obtain ⟨p0, p1, p2, e, r⟩ := p
  exact ⟨_, e, trivial⟩
def poolN : List Str := ["an", "in", "out", "wish", "word", "open", "clear", "heard", "chair", "abcdefgh", "abcdefgi", "a", "ana"]
theorem pool_nd : poolN.Nodup := by decide +kernel
theorem pool_nm : ∀ x ∈ poolN, Nm x := by
  intro x hx
  have h : ∀ x ∈ poolN, (decide (1 ≤ x.cps.toList.length) && decide (x.cps.toList.length ≤ 8) && x.cps.toList.all fun c => decide (97 ≤ c) && decide (c ≤ 122)) = true := by decide +kernel
  have z := h x hx
  rw [Bool.and_eq_true, Bool.and_eq_true] at z
  refine ⟨of_decide_eq_true z.1.1, of_decide_eq_true z.1.2, fun c hc => ?_⟩
  have q := List.all_eq_true.mp z.2 c hc
  rw [Bool.and_eq_true] at q
  exact ⟨of_decide_eq_true q.1, of_decide_eq_true q.2⟩
def spNames (K : PySem.W.Frag) : Sp := fun vs H Q _ => ∃ (pt : Addr) (n : Nat) (m : Nat), vs = [.ref pt, .int (m : Int)] ∧ PotAt H pt n ∧ n ≤ 50000 ∧ m ≤ 13 ∧
  ∀ (l : List Str) D H', l.length = m → l.Nodup → (∀ x ∈ l, Nm x) → H D = none → H' D = some (.lst (l.map V.str)) → PotAt H' pt (n + m) → Frm [pt] H [pt] H' → Q (.ref D) H'
theorem idx_of {i : Int} {n : Nat} (h0 : 0 ≤ i) (h1 : i < n) : seqIndex? i n = some i.toNat := by
  have e : ¬ i < 0 := by omega
  simp [seqIndex?, e, h0, h1]
theorem erase_perm {α : Type} : ∀ {r : List α} {k : Nat} {y : α}, r[k]? = some y → (y :: r.eraseIdx k).Perm r
  | [], k, y, h => by cases k <;> cases h
  | x :: r, 0, y, h => by
    cases h
    exact List.Perm.refl _
  | x :: r, k + 1, y, h => (List.Perm.swap x y _).trans ((erase_perm (r := r) (k := k) h).cons x)
/-- a place of a list is taken out -/
theorem pop_perm {l r : List Str} {k : Nat} {y : Str} (h : r[k]? = some y) : (l ++ [y] ++ r.eraseIdx k).Perm (l ++ r) := by
  rw [List.append_assoc]
  exact List.Perm.append_left l (erase_perm h)
section
variable {P : Program} {w : World} {K : PySem.W.Frag} {mg : Str → Option Value} {base : Heap}
theorem fn_names (T : Tx K mg) : FnOk P w K mg base CX0 2 T.d_l_names.f T.d_l_names.fd ["_law_pot_here", "_law_many"] (spNames K) := by
  have GD : FnOk P w K mg base CX0 1 T.d_l_dip.f T.d_l_dip.fd ["_law_pot_here", "_law_many"] spDip := fn_dip T
  refine T.d_l_names.F.ok sc_l_names (fun vs H Q E h => ?_) (fun cdv A outer s H vs Q E hr h => ?_)
  · obtain ⟨pt, n, m, rfl, _⟩ := h
    rfl
  · obtain ⟨pt, n, m, rfl, hp, hn, hm, k⟩ := h
    have nd := sc_l_names.nd
    refine ⟨_, pss_cons (ps_set (i := 2) nd rfl (.inr rfl) (pe_lst (pa_cons pe_str (pa_cons pe_str (pa_cons pe_str (pa_cons pe_str (pa_cons pe_str (pa_cons pe_str (pa_cons pe_str (pa_cons pe_str (pa_cons pe_str (pa_cons pe_str (pa_cons pe_str (pa_cons pe_str (pa_cons pe_str pa_nil)))))))))))))))
      (pss_one (ps_ret (pe_lc (own := [("_law_k", 3)]) (g := gName 3) (tt := tYes) rfl nd (pi_range1 (by rfl) T.b_range (pa_cons (pv 1) pa_nil)) (blkOk_by (own := [("_law_k", 3)]) (N := n_l_names) (sc := defScope s_l_names) (by decide +kernel))
        (fun _ _ _ _ _ => pg_name (i := 3) nd rfl (Or.inl rfl)) (fun _ _ _ _ _ => pts_nil)
        (te := tBM K "list" rPopAt (tVar 2) (tCons (tCall spDip [] E0 (tCons (tVar 0) (tCons (tCB (fun xs H Q => ∃ p ys, xs = [.ref p] ∧ (SqL K H p ys ∨ SqT K H p ys) ∧ Q (.int ys.length) H) (tCons (tVar 2) tNil)) tNil))) tNil))
        (fun _ _ _ _ _ => by exact (pe_bm PySem.F.plainAttrs_list PySem.F.slot_list_pop PySem.F.type_list_pop mt_popAt (pv 2) (pa_cons (pe_call GD hr (by rfl) T.g_l_dip T.d_l_dip.F.kp T.d_l_dip.b .nil pass0 (pa_cons (pv 0) (pa_cons (pe_callB call_len_seq (by rfl) T.b_len PySem.boot_len (pa_cons (pv 2) pa_nil)) pa_nil))) pa_nil)))))), ?_⟩
    refine ⟨(by show 13 ≤ sizeLine; decide), fun q hq => ?_⟩
    obtain ⟨uP, hpu, _⟩ := hp.some
    have npq : pt ≠ q := ne_of_none hpu hq
    refine ⟨_, rfl, _, rfl, by omega, by omega, fun D hD => ?_⟩
    have s1 : Same H (upd H q (.lst (poolN.map V.str))) := same_new hq
    have hq1 : (upd H q (.lst (poolN.map V.str))) q = some (.lst (poolN.map V.str)) := upd_same
    have hD' : (upd H q (.lst (poolN.map V.str))) D = none := hD
    have npD : pt ≠ D := ne_of_none (s1 _ _ hpu) hD'
    have nqD : q ≠ D := ne_of_none hq1 hD'
    have hD0 : H D = none := s1.free hD'
    refine lc_range (lo := 0) (n := m) (fun i H' => ∃ acc rest : List Str, H' D = some (.lst (acc.map V.str)) ∧ H' q = some (.lst (rest.map V.str)) ∧ (acc ++ rest).Perm poolN ∧ acc.length = i ∧ PotAt H' pt (n + i) ∧ ∀ b u, H b = some u → b ≠ pt → H' b = some u)
      ⟨[], poolN, upd_same, (by rw [upd_ne nqD]; exact hq1), List.Perm.refl _, rfl, hp.stay fun u e => same_new hD' _ _ (s1 _ _ e), fun b u e _ => same_new hD' _ _ (s1 _ _ e)⟩ ?_ ?_
    · rintro i H' hi ⟨acc, rest, eD, eq, pr, ea, hpi, kp⟩
      have hlen : acc.length + rest.length = 13 := by
        have z := pr.length_eq
        rw [List.length_append] at z
        exact z
      refine ⟨rfl, ?_⟩
      refine ⟨_, rfl, .inl ⟨rfl, _, SqL.of eq⟩, _, rfl, _, rfl, q, _, rfl, .inl (SqL.of eq), ?_⟩
      rw [List.length_map]
      refine ⟨pt, n + i, _, rfl, hpi, by omega, by omega, by omega, fun r H2 r0 r1 hp2 f2 => ?_⟩
      have hk : r.toNat < rest.length := by omega
      have eq2 : H2 q = some (.lst (rest.map V.str)) := f2.keep _ _ eq (by simpa using npq.symm)
      have eD2 : H2 D = some (.lst (acc.map V.str)) := f2.keep _ _ eD (by simpa using npD.symm)
      refine ⟨q, rest.map V.str, r, r.toNat, .str rest[r.toNat], rfl, rfl, eq2, by omega, by omega, idx_of r0 (by rw [List.length_map]; exact r1), (by rw [List.getElem?_map, List.getElem?_eq_getElem hk]; rfl), ?_⟩
      rw [map_eraseS]
      refine ⟨acc.map V.str, (by rw [upd_ne nqD.symm]; exact eD2), sz5 (by rw [List.length_map]; omega), acc ++ [rest[r.toNat]], rest.eraseIdx r.toNat, (by rw [upd_same, snocV]), (by rw [upd_ne nqD, upd_same]), (pop_perm (List.getElem?_eq_getElem hk)).trans pr, (by rw [List.length_append, ea]; rfl), hp2.stay fun u e => (by rw [upd_ne npD, upd_ne npq]; exact e), fun b u e nb => ?_⟩
      have e1 := f2.keep _ _ (kp b u e nb) (by simpa using nb)
      rw [upd_ne (ne_of_none e hD0), upd_ne (ne_of_none e hq)]
      exact e1
    · rintro H' ⟨acc, rest, eD, eq, pr, ea, hpi, kp⟩
      have nd2 : (acc ++ rest).Nodup := pr.nodup_iff.mpr pool_nd
      refine k acc D H' ea (List.nodup_append.mp nd2).1 (fun x hx => pool_nm x (pr.mem_iff.mp (List.mem_append_left _ hx))) hD0 eD hpi ?_
      refine ⟨fun b xs e => kp b _ e fun z => ?_, fun b u e nb => kp b u e (by simpa using nb), fun b hb => .inl hb⟩
      obtain ⟨u, hu, nt⟩ := hp.some
      rw [z, hu] at e
      cases e
      exact nt
end
end Ha

/-! The law's helpers, third part: _law_houses. -/
namespace Ha
open PySem PySem.Spec PyProof.Rows L2
theorem for_str {x : Str} {g : TG} {tb : TS} {D : Ends} {σ : L2.St} {H : Hp} (Pv : Nat → L2.St → Hp → Prop) (h0 : Pv 0 σ H)
    (hs : ∀ i c σ H, x.cps[i]? = some c → Pv i σ H → g (.str ⟨#[c]⟩) σ H fun σ2 H2 => tb { D with nx := Pv (i + 1), ct := Pv (i + 1), bk := D.nx } σ2 H2) (hd : ∀ σ H, Pv x.cps.size σ H → D.nx σ H) :
    ∃ W : Nat → Nat → L2.St → Hp → Prop, (∃ m, W 0 m σ H) ∧ ∀ i m σ H, W i m σ H →
      ((Its x).stop i H ∧ D.nx σ H) ∨ ((Its x).go i H ∧ ∃ N : L2.St → Hp → Prop, (∀ σ' H', N σ' H' → ∃ m', m' < m ∧ W (i + 1) m' σ' H') ∧ ∀ v H', (Its x).yld i H v H' → g v σ H' fun σ2 H2 => tb { D with nx := N, ct := N, bk := D.nx } σ2 H2) := by
  refine ⟨fun i m σ H => m = x.cps.size - i ∧ i ≤ x.cps.size ∧ Pv i σ H, ⟨x.cps.size, by simp, Nat.zero_le _, h0⟩, ?_⟩
  rintro i m σ H ⟨rfl, hi, p⟩
  by_cases hlt : i < x.cps.size
  · refine .inr ⟨hlt, Pv (i + 1), fun σ' H' p' => ⟨x.cps.size - (i + 1), by omega, rfl, hlt, p'⟩, fun v H' y => ?_⟩
    obtain ⟨rfl, c, hc, rfl⟩ := y
    exact hs i c σ _ hc p
  · have e : i = x.cps.size := by omega
    subst e
    exact .inl ⟨Nat.le_refl _, hd σ H p⟩
theorem lc_str {x : Str} {g : TG} {tt : TT} {te : TE} {vs : List Nat} {σ : L2.St} {H1 : Hp} {D : Addr} {Qd : Hp → Prop} (Pv : Nat → Hp → Prop) (h0 : Pv 0 (upd H1 D (.lst [])))
    (hs : ∀ i c H, x.cps[i]? = some c → Pv i H → g (.str ⟨#[c]⟩) (wipe σ vs) H fun σ2 H2 => wipe σ2 vs = wipe σ vs ∧ tt σ2 H2 fun b H3 =>
      if b = true then te σ2 H3 fun y H4 => ∃ acc, H4 D = some (.lst acc) ∧ acc.length < sizeLine ∧ Pv (i + 1) (upd H4 D (.lst (acc ++ [y]))) else Pv (i + 1) H3) (hd : ∀ H, Pv x.cps.size H → Qd H) :
    ∃ W : Nat → Nat → Hp → Prop, (∃ m, W 0 m (upd H1 D (.lst []))) ∧ ∀ i m H, W i m H →
      ((Its x).stop i H ∧ Qd H) ∨ ((Its x).go i H ∧ ∃ Nx : Hp → Prop, (∀ H', Nx H' → ∃ m', m' < m ∧ W (i + 1) m' H') ∧ ∀ v H', (Its x).yld i H v H' → g v (wipe σ vs) H' fun σ2 H2 => wipe σ2 vs = wipe σ vs ∧ tt σ2 H2 fun b H3 =>
        if b = true then te σ2 H3 fun y H4 => ∃ acc, H4 D = some (.lst acc) ∧ acc.length < sizeLine ∧ Nx (upd H4 D (.lst (acc ++ [y]))) else Nx H3) := by
  refine ⟨fun i m H => m = x.cps.size - i ∧ i ≤ x.cps.size ∧ Pv i H, ⟨x.cps.size, by simp, Nat.zero_le _, h0⟩, ?_⟩
  rintro i m H ⟨rfl, hi, p⟩
  by_cases hlt : i < x.cps.size
  · refine .inr ⟨hlt, Pv (i + 1), fun H' p' => ⟨x.cps.size - (i + 1), by omega, rfl, hlt, p'⟩, fun v H' y => ?_⟩
    obtain ⟨rfl, c, hc, rfl⟩ := y
    exact hs i c _ hc p
  · have e : i = x.cps.size := by omega
    subst e
    exact .inl ⟨Nat.le_refl _, hd H p⟩
def tenS : Str := "abcdefghij"
def twoN (i j : Nat) : Str := (⟨#[97 + i]⟩ : Str) ++ (⟨#[97 + j]⟩ : Str)
def rowN (i k : Nat) : List Str := (List.range k).map (twoN i)
def allN (i : Nat) : List Str := "qq" :: (List.range i).flatMap fun i => rowN i 10
theorem ten_at {i c : Nat} (h : tenS.cps[i]? = some c) : i < 10 ∧ c = 97 + i := by
  obtain ⟨hl, e⟩ := Array.getElem?_eq_some_iff.mp h
  have hs : tenS.cps.size = 10 := by decide +kernel
  have hl' : i < 10 := by omega
  have a : ∀ i : Fin 10, tenS.cps[i.1]? = some (97 + i.1) := by decide +kernel
  have z := a ⟨i, hl'⟩
  rw [h] at z
  exact ⟨hl', Option.some.inj z⟩
theorem row_step (i k : Nat) : rowN i (k + 1) = rowN i k ++ [twoN i k] := by
  unfold rowN
  rw [List.range_succ, List.map_append]
  rfl
theorem all_step (i : Nat) : allN (i + 1) = allN i ++ rowN i 10 := by
  unfold allN
  rw [List.range_succ, List.flatMap_append]
  simp
theorem row_len (i k : Nat) : (rowN i k).length = k := by
  unfold rowN
  rw [List.length_map, List.length_range]
theorem all_len (i : Nat) : (allN i).length = 1 + 10 * i := by
  induction i with
  | zero => rfl
  | succ i ih => rw [all_step, List.length_append, ih, row_len]; omega
theorem all_nd : (allN 10).Nodup := by decide +kernel
theorem all_nm : ∀ x ∈ allN 10, Nm x := by
  intro x hx
  have h : ∀ x ∈ allN 10, (decide (1 ≤ x.cps.toList.length) && decide (x.cps.toList.length ≤ 8) && x.cps.toList.all fun c => decide (97 ≤ c) && decide (c ≤ 122)) = true := by decide +kernel
  have z := h x hx
  rw [Bool.and_eq_true, Bool.and_eq_true] at z
  refine ⟨of_decide_eq_true z.1.1, of_decide_eq_true z.1.2, fun c hc => ?_⟩
  have q := List.all_eq_true.mp z.2 c hc
  rw [Bool.and_eq_true] at q
  exact ⟨of_decide_eq_true q.1, of_decide_eq_true q.2⟩
/-- the houses' names, the guest's own ahead -/
def HL (l : List Str) : Prop := 2 ≤ l.length ∧ (l.length ≤ 10 ∨ l.length = 101) ∧ l.Nodup ∧ ∀ x ∈ l, Nm x
def spHouses : Sp := fun vs H Q _ => ∃ (pt : Addr) (n : Nat), vs = [.ref pt] ∧ PotAt H pt n ∧ n ≤ 40000 ∧
  ∀ (l : List Str) D H', HL l → H D = none → H' D = some (.lst (l.map V.str)) → PotAt H' pt (n + 20) → Frm [pt] H [pt] H' → Q (.ref D) H'
theorem frm_free {F F' : List Addr} {H H' : Hp} (f : Frm F H F' H') {D : Addr} (h : H' D = none) (hn : D ∉ F) : H D = none := by
  cases e : H D with
  | none => rfl
  | some u =>
    rw [f.keep _ _ e hn] at h
    cases h
section
variable {P : Program} {w : World} {K : PySem.W.Frag} {mg : Str → Option Value} {base : Heap}
theorem fn_lhouses (T : Tx K mg) : FnOk P w K mg base CX0 3 T.d_l_houses.f T.d_l_houses.fd ["_law_pot_here"] spHouses := by
  have GD : FnOk P w K mg base CX0 1 T.d_l_dip.f T.d_l_dip.fd ["_law_pot_here", "_law_many"] spDip := fn_dip T
  have GN : FnOk P w K mg base CX0 2 T.d_l_names.f T.d_l_names.fd ["_law_pot_here", "_law_many"] (spNames K) := fn_names T
  refine T.d_l_houses.F.ok sc_l_houses (fun vs H Q E h => ?_) (fun cdv A outer s H vs Q E hr h => ?_)
  · obtain ⟨pt, n, rfl, _⟩ := h
    rfl
  · obtain ⟨pt, n, rfl, hp, hn, k⟩ := h
    have nd := sc_l_houses.nd
    have hr1 : Room 1 _ := hr.mono (by decide)
    refine ⟨_, pss_cons (ps_if (pt_cmpR op_gt (pe_call GD hr1 (by rfl) T.g_l_dip T.d_l_dip.F.kp T.d_l_dip.b .nil pass0 (pa_cons (pv 0) (pa_cons pe_int pa_nil))) pe_int (nomark _))
        (pss_one (ps_ret (pe_call GN hr (by rfl) T.g_l_names T.d_l_names.F.kp T.d_l_names.b .nil pass0 (pa_cons (pv 0) (pa_cons (pe_op op_add pe_int (pe_call GD hr1 (by rfl) T.g_l_dip T.d_l_dip.F.kp T.d_l_dip.b .nil pass0 (pa_cons (pv 0) (pa_cons pe_int pa_nil)))) pa_nil))))) pss_nil)
      (pss_cons (ps_set (i := 1) nd rfl (.inl rfl) (pe_lst (pa_cons pe_str pa_nil)))
      (pss_cons (ps_for PassesOwn.never rfl (pi_str pe_str) (pg_name (i := 2) nd rfl (.inr rfl))
        (pss_one (ps_expr (pe_bm PySem.F.plainAttrs_list PySem.F.slot_list_extend PySem.F.type_list_extend mt_extend (pv 1) (pa_cons (pe_lc (own := [("_law_other", 3)]) (g := gName 3) (tt := tYes) rfl nd (pi_str pe_str) (blkOk_by (own := [("_law_other", 3)]) (N := n_l_houses) (sc := defScope s_l_houses) (by decide +kernel))
          (fun _ _ _ _ _ => pg_name (i := 3) nd rfl (Or.inl rfl)) (fun _ _ _ _ _ => pts_nil) (fun _ _ _ _ _ => pe_op op_add_str (pv 2) (pv 3))) pa_nil)))))
      (pss_one (ps_ret (pv 1))))), ?_⟩
    refine ⟨_, rfl, pt, n, _, rfl, hp, by omega, by decide, by decide, fun r H1 r0 r1 hp1 f1 => ?_⟩
    refine ⟨_, _, rfl, rfl, _, rfl, ?_⟩
    by_cases c : r > 0
    · rw [decide_eq_true c]
      refine iteT ?_
      refine ⟨_, rfl, _, rfl, pt, n + 1, _, rfl, hp1, by omega, by decide, by decide, fun r2 H2 s0 s1 hp2 f2 => ?_⟩
      refine ⟨_, _, rfl, rfl, pt, n + 1 + 1, (2 + r2).toNat, (by
        show [V.ref pt, V.int (2 + r2)] = _
        rw [Int.toNat_of_nonneg (by omega)]), hp2, by omega, by omega, fun l D H3 el hnd hnm hD eD hp3 f3 => ?_⟩
      have npD : D ∉ [pt] := fun z => by
        obtain ⟨u, e, _⟩ := hp2.some
        rw [List.mem_singleton.mp z, e] at hD
        cases hD
      exact k l D H3 ⟨by omega, .inl (by omega), hnd, hnm⟩ (frm_free (f1.trans f2) hD npD) eD (hp3.mono (by omega)) ((f1.trans f2).trans f3)
    · rw [decide_eq_false c]
      refine iteF ?_
      refine ⟨(by show 1 ≤ sizeLine; decide), fun q hq => ?_⟩
      have hs : tenS.cps.size = 10 := by decide +kernel
      have e1 : (upd H1 q (.lst [.str "qq"])) q = some (.lst ((allN 0).map V.str)) := upd_same
      have kp0 : Same H1 (upd H1 q (.lst [.str "qq"])) := same_new hq
      refine ⟨_, rfl, for_str (x := tenS) (fun i σ H' => ∃ v2 v3, σ = [some (.ref pt), some (.ref q), v2, v3] ∧ H' q = some (.lst ((allN i).map V.str)) ∧ Same H1 H') ⟨none, none, rfl, e1, kp0⟩ ?_ ?_⟩
      · rintro i ch σ H' hi ⟨v2, v3, rfl, e2, s2⟩
        obtain ⟨hi', rfl⟩ := ten_at hi
        refine ⟨_, rfl, .inl ⟨rfl, _, SqL.of e2⟩, _, rfl, fun D hD => ?_⟩
        have nqD : q ≠ D := ne_of_none e2 hD
        refine lc_str (x := tenS) (fun j H2 => H2 D = some (.lst ((rowN i j).map V.str)) ∧ Same H' H2) ⟨upd_same, same_new hD⟩ ?_ ?_
        · rintro j cj H2 hj ⟨e3, s3⟩
          obtain ⟨hj', rfl⟩ := ten_at hj
          refine ⟨rfl, ?_⟩
          refine ⟨_, rfl, _, rfl, _, _, rfl, rfl, (by show 1 + 1 ≤ sizeLine; decide), _, e3, sz5 (by rw [List.length_map, row_len]; omega), ?_, fun b u e => ?_⟩
          · rw [upd_same, row_step, List.map_append]
            rfl
          · have nb : b ≠ D := ne_of_none e hD
            rw [upd_ne nb]
            exact s3 b u e
        · rintro H2 ⟨e3, s3⟩
          rw [hs] at e3
          refine ⟨q, D, _, _, rfl, rfl, s3 _ _ e2, e3, sz5' (by rw [List.length_map, List.length_map, all_len, row_len]; omega), _, _, rfl, ?_, fun b u e => ?_⟩
          · rw [upd_same, all_step, List.map_append]
          · have nb : b ≠ q := ne_of_none e hq
            rw [upd_ne nb]
            exact s3 b u (s2 b u e)
      · rintro σ H' ⟨v2, v3, rfl, e2, s2⟩
        rw [hs] at e2
        refine ⟨_, rfl, ?_⟩
        have npq : q ∉ [pt] := fun z => by
          obtain ⟨u, e, _⟩ := hp1.some
          rw [List.mem_singleton.mp z, e] at hq
          cases hq
        exact k (allN 10) q H' ⟨by rw [all_len]; omega, .inr (by rw [all_len]), all_nd, all_nm⟩ (frm_free f1 hq npq) e2 ((hp1.stay fun u e => s2 _ _ e).mono (by omega)) (f1.trans (Frm.same s2))
end
end Ha

/-! The law's helpers, fourth part: _law_road. -/
namespace Ha
open PySem PySem.Spec PyProof.Rows L2
/-- [e(x) for x in hs], new things -/
theorem lcNew {K : PySem.W.Frag} {a D : Addr} {hs : List Str} {R : Hp → Str → V → Prop} {σ : L2.St} {H1 : Hp} {Qd : Hp → Prop} {j : Nat} {te : TE} (hR : ∀ H H' x v, TStay H H' → R H x v → R H' x v) (hq : SqL K H1 a (hs.map V.str)) (hD : H1 D = none) (hl : hs.length ≤ 100000)
    (ht : ∀ (x : Str) (H : Hp) (Q : VK), (∀ v H', Same H H' → R H' x v → Q v H') → te ((wipe σ [j]).set j (some (.str x))) H Q)
    (hd : ∀ H' acc, H' D = some (.lst acc) → Paired (R H') hs acc → Same H1 H' → Qd H')
    (h1 : ∀ x : V, wipe ((wipe σ [j]).set j (some x)) [j] = wipe σ [j] := by intro; rfl) :
    ∃ W : Nat → Nat → Hp → Prop, (∃ m, W 0 m (upd H1 D (.lst []))) ∧ ∀ i m H, W i m H →
      ((Itl K a).stop i H ∧ Qd H) ∨ ((Itl K a).go i H ∧ ∃ Nx : Hp → Prop, (∀ H', Nx H' → ∃ m', m' < m ∧ W (i + 1) m' H') ∧ ∀ x H', (Itl K a).yld i H x H' → gName j x (wipe σ [j]) H' fun σ2 H2 => wipe σ2 [j] = wipe σ [j] ∧ tYes σ2 H2 fun b H3 =>
        if b = true then te σ2 H3 fun y H4 => ∃ acc, H4 D = some (.lst acc) ∧ acc.length < sizeLine ∧ Nx (upd H4 D (.lst (acc ++ [y]))) else Nx H3) := by
  have sq : ∀ H', Same H1 H' → SqL K H' a (hs.map V.str) := fun H' s => by
    rcases hq with (e | ⟨z, e⟩) | e
    · exact .inl (.inl (s _ _ e))
    · exact .inl (.inr ⟨z, s _ _ e⟩)
    · exact .inr e
  refine lc_list (K := K) (a := a) (xs := hs.map V.str) (fun i H' => ∃ acc, H' D = some (.lst acc) ∧ Paired (R H') (hs.take i) acc ∧ Same H1 H') ⟨[], upd_same, .nil, same_new hD⟩ (fun i H' _ ⟨_, _, _, s⟩ => sq H' s) ?_ ?_
  · rintro i x H' hi ⟨acc, e, p, s⟩
    rw [List.getElem?_map] at hi
    obtain ⟨y, hy, rfl⟩ := Option.map_eq_some_iff.mp hi
    have hil : i < hs.length := (List.getElem?_eq_some_iff.mp hy).1
    refine ⟨h1 _, ?_⟩
    unfold tYes
    refine iteT ?_
    refine ht y H' _ fun v H2 s2 g => ?_
    have ll := paired_len p
    rw [List.length_take] at ll
    have e2 := s2 _ _ e
    refine ⟨acc, e2, sz5 (by omega), acc ++ [v], upd_same, ?_, fun b o z => ?_⟩
    · have tk : hs.take (i + 1) = hs.take i ++ [y] := by
        rw [List.take_add_one, hy]
        rfl
      have tt : TStay H2 (upd H2 D (.lst (acc ++ [v]))) := fun b xs z => by
        have n : b ≠ D := fun q => by
          rw [q, e2] at z
          cases z
        rw [upd_ne n]
        exact z
      rw [tk]
      exact (Paired.mapP p fun _ _ q => hR _ _ _ _ tt (hR _ _ _ _ (fun b xs z => s2 _ _ z) q)).snoc (hR _ _ _ _ tt g)
    · have n : b ≠ D := ne_of_none z hD
      rw [upd_ne n]
      exact s2 _ _ (s _ _ z)
  · rintro H' ⟨acc, e, p, s⟩
    rw [List.length_map, List.take_length] at p
    exact hd H' acc e p s
def WhatR (H : Hp) (W : What) (v : V) : Prop := ∃ c, v = .ref c ∧ WhatAt H c W
theorem WhatR.stay {H H' : Hp} (t : TStay H H') {W : What} {v : V} (h : WhatR H W v) : WhatR H' W v := by
  obtain ⟨c, e, q⟩ := h
  exact ⟨c, e, q.stay t⟩
theorem hear1 {j : Nat} {x wd : Str} {σ : L2.St} (hσ : σ[j]? = some (some (.str x))) (H : Hp) (Q : VK) (k : ∀ v H', Same H H' → WhatR H' (.hear x [wd]) v → Q v H') :
    tTup (tCons (tC (.str "hear")) (tCons (tVar j) (tCons (tTup (tCons (tC (.str wd)) tNil)) tNil))) σ H Q := by
  refine ⟨_, hσ, (by show 1 ≤ sizeLine; decide), fun b hb => ⟨(by show 3 ≤ sizeLine; decide), fun t ht => ?_⟩⟩
  refine k _ _ ((same_new hb).trans (same_new ht)) ⟨t, rfl, b, upd_same, ?_⟩
  rw [upd_ne (ne_of_none upd_same ht)]
  exact upd_same
theorem hear2 {j : Nat} {x wd : Str} {σ : L2.St} (hσ : σ[j]? = some (some (.str x))) (H : Hp) (Q : VK) (k : ∀ v H', Same H H' → WhatR H' (.hear x (lWord wd)) v → Q v H') :
    tTup (tCons (tC (.str "hear")) (tCons (tVar j) (tCons (tTup (tCons (tC (.str "word")) (tCons (tC (.str wd)) tNil))) tNil))) σ H Q := by
  refine ⟨_, hσ, (by show 2 ≤ sizeLine; decide), fun b hb => ⟨(by show 3 ≤ sizeLine; decide), fun t ht => ?_⟩⟩
  refine k _ _ ((same_new hb).trans (same_new ht)) ⟨t, rfl, b, upd_same, ?_⟩
  rw [upd_ne (ne_of_none upd_same ht)]
  exact upd_same
def roadW (ord : List Str) (one wd : Str) : List What := [What.wish] ++ ord.map (What.hear · lHeard) ++ ord.map (What.hear · (lWord wClear)) ++ [What.hear one lOpen] ++ ord.map (What.hear · lHeard) ++ [What.hear one (lWord wd)]
def spRoad : Sp := fun vs H Q _ => ∃ (pt hs : Addr) (n : Nat) (l : List Str), vs = [.ref pt, .ref hs] ∧ PotAt H pt n ∧ n ≤ 40000 ∧ H hs = some (.lst (l.map V.str)) ∧ 0 < l.length ∧ l.length ≤ 100 ∧
  ∀ (ord : List Str) (one wd : Str) (xs : List V) D H', ord.Perm l → one ∈ ord → (wd = wClear ∨ wd = wBarred) → H D = none → H' D = some (.lst xs) → Paired (WhatR H') (roadW ord one wd) xs → PotAt H' pt (n + 200) → Frm [pt] H [pt] H' → Q (.ref D) H'
theorem paired_mapL {α β γ : Type} {R : β → γ → Prop} {f : α → β} : ∀ {l : List α} {xs : List γ}, Paired (fun x v => R (f x) v) l xs → Paired R (l.map f) xs
  | _, _, .nil => .nil
  | _, _, .cons r p => .cons r (paired_mapL p)
section
variable {P : Program} {w : World} {K : PySem.W.Frag} {mg : Str → Option Value} {base : Heap}
theorem fn_road (T : Tx K mg) : FnOk P w K mg base CX0 2 T.d_l_road.f T.d_l_road.fd ["_law_pot_here", "_law_houses_here"] spRoad := by
  have GD : FnOk P w K mg base CX0 1 T.d_l_dip.f T.d_l_dip.fd ["_law_pot_here", "_law_many"] spDip := fn_dip T
  refine T.d_l_road.F.ok sc_l_road (fun vs H Q E h => ?_) (fun cdv A outer s H vs Q E hr h => ?_)
  · obtain ⟨pt, hs, n, l, rfl, _⟩ := h
    rfl
  · obtain ⟨pt, hs, n, l, rfl, hp, hn, hh, hl0, hl, k⟩ := h
    have nd := sc_l_road.nd
    refine ⟨_, pss_cons (ps_set (i := 2) nd rfl (.inr rfl) (pe_callTy call_list_of (by rfl) T.b_list (by decide +kernel) (pa_cons (pv 1) pa_nil)))
      (pss_cons (ps_setLc (i := 3) (own := [("_law_house", 7)]) (g := gName 7) (tt := tYes) (by rfl) nd rfl rfl (sw_true rfl rfl rfl (by decide +kernel)) (pi_list (pv 1)) (blkOk_by (own := [("_law_house", 7)]) (N := n_l_road) (sc := defScope s_l_road) (by decide +kernel))
        (fun _ _ _ _ _ => pg_name (i := 7) nd rfl (Or.inl rfl)) (fun _ _ _ _ _ => pts_nil)
        (te := tBM K "list" rPopAt (tVar 2) (tCons (tCall spDip [] E0 (tCons (tVar 0) (tCons (tCB (fun xs H Q => ∃ p ys, xs = [.ref p] ∧ (SqL K H p ys ∨ SqT K H p ys) ∧ Q (.int ys.length) H) (tCons (tVar 2) tNil)) tNil))) tNil))
        (fun _ _ _ _ _ => by exact (pe_bm PySem.F.plainAttrs_list PySem.F.slot_list_pop PySem.F.type_list_pop mt_popAt (pv 2) (pa_cons (pe_call GD hr (by rfl) T.g_l_dip T.d_l_dip.F.kp T.d_l_dip.b .nil pass0 (pa_cons (pv 0) (pa_cons (pe_callB call_len_seq (by rfl) T.b_len PySem.boot_len (pa_cons (pv 2) pa_nil)) pa_nil))) pa_nil))))
      (pss_cons (ps_set (i := 4) nd rfl (.inl rfl) (pe_ix ix_list (pv 3) (pe_call GD hr (by rfl) T.g_l_dip T.d_l_dip.F.kp T.d_l_dip.b .nil pass0 (pa_cons (pv 0) (pa_cons (pe_callB call_len_seq (by rfl) T.b_len PySem.boot_len (pa_cons (pv 3) pa_nil)) pa_nil))) (fun _ _ => rfl)))
      (pss_cons (ps_setLc (i := 5) (own := [("_law_house", 7)]) (g := gName 7) (tt := tYes) (by rfl) nd rfl rfl (sw_true rfl rfl rfl (by decide +kernel)) (pi_list (pv 3)) (blkOk_by (own := [("_law_house", 7)]) (N := n_l_road) (sc := defScope s_l_road) (by decide +kernel))
        (fun _ _ _ _ _ => pg_name (i := 7) nd rfl (Or.inl rfl)) (fun _ _ _ _ _ => pts_nil) (fun _ _ _ _ _ => pe_tup (pa_cons pe_str (pa_cons (pv 7) (pa_cons (pe_tup (pa_cons pe_str pa_nil)) pa_nil)))))
      (pss_cons (ps_set (i := 6) nd rfl (.inl rfl) (pe_op op_cat (pe_op op_cat (pe_lst (pa_cons (pe_tup (pa_cons pe_str pa_nil)) pa_nil)) (pv 5)) (pe_lc (own := [("_law_house", 7)]) (g := gName 7) (tt := tYes) rfl nd (pi_list (pv 3)) (blkOk_by (own := [("_law_house", 7)]) (N := n_l_road) (sc := defScope s_l_road) (by decide +kernel))
        (fun _ _ _ _ _ => pg_name (i := 7) nd rfl (Or.inl rfl)) (fun _ _ _ _ _ => pts_nil) (fun _ _ _ _ _ => pe_tup (pa_cons pe_str (pa_cons (pv 7) (pa_cons (pe_tup (pa_cons pe_str (pa_cons pe_str pa_nil))) pa_nil)))))))
      (pss_cons (ps_set (i := 6) nd rfl (.inl rfl) (pe_op op_cat (pe_op op_cat (pv 6) (pe_lst (pa_cons (pe_tup (pa_cons pe_str (pa_cons (pv 4) (pa_cons (pe_tup (pa_cons pe_str pa_nil)) pa_nil)))) pa_nil))) (pv 5)))
      (pss_one (ps_ret (pe_op op_cat (pv 6) (pe_lst (pa_cons (pe_tup (pa_cons pe_str (pa_cons (pv 4) (pa_cons (pe_tup (pa_cons pe_str (pa_cons (pe_ix ix_list (pe_lst (pa_cons pe_str (pa_cons pe_str pa_nil))) (pe_call GD hr (by rfl) T.g_l_dip T.d_l_dip.F.kp T.d_l_dip.b .nil pass0 (pa_cons (pv 0) (pa_cons pe_int pa_nil))) (fun _ _ => rfl)) pa_nil))) pa_nil)))) pa_nil)))))))))), ?_⟩
    have npt : hs ≠ pt := fun z => by
      obtain ⟨p0, p1, p2, e, _⟩ := hp
      rw [z, e] at hh
      cases l with
      | nil => cases hl0
      | cons x r =>
        injection hh with e1
        injection e1 with e2
        injection e2 with e3 _
        cases e3
    obtain ⟨uP, hpu, _⟩ := hp.some
    refine ⟨_, rfl, hs, _, rfl, .inl (SqL.of hh), fun q hq => ?_⟩
    have s1 : Same H (upd H q (.lst (l.map V.str))) := same_new hq
    have hq1 : (upd H q (.lst (l.map V.str))) q = some (.lst (l.map V.str)) := upd_same
    have npq : pt ≠ q := ne_of_none hpu hq
    have nhq : hs ≠ q := ne_of_none hh hq
    refine ⟨_, rfl, hs, rfl, ⟨_, SqL.of (s1 _ _ hh)⟩, fun D hD => ?_⟩
    have hD' : (upd H q (.lst (l.map V.str))) D = none := hD
    have npD : pt ≠ D := ne_of_none (s1 _ _ hpu) hD'
    have nqD : q ≠ D := ne_of_none hq1 hD'
    have hD0 : H D = none := s1.free hD'
    refine lc_list (K := K) (a := hs) (xs := l.map V.str) (fun i H' => ∃ acc rest : List Str, H' D = some (.lst (acc.map V.str)) ∧ H' q = some (.lst (rest.map V.str)) ∧ (acc ++ rest).Perm l ∧ acc.length = i ∧ PotAt H' pt (n + i) ∧ ∀ b u, H b = some u → b ≠ pt → H' b = some u)
      ⟨[], l, upd_same, (by rw [upd_ne nqD]; exact hq1), List.Perm.refl _, rfl, hp.stay fun u e => same_new hD' _ _ (s1 _ _ e), fun b u e _ => same_new hD' _ _ (s1 _ _ e)⟩ (fun i H' _ ⟨_, _, _, _, _, _, _, kp⟩ => SqL.of (kp _ _ hh npt)) ?_ ?_
    · rintro i x H' hi ⟨acc, rest, eD, eq, pr, ea, hpi, kp⟩
      have hil : i < l.length := by
        have z := (List.getElem?_eq_some_iff.mp hi).1
        rw [List.length_map] at z
        exact z
      have hlen : acc.length + rest.length = l.length := by
        have z := pr.length_eq
        rw [List.length_append] at z
        exact z
      refine ⟨rfl, ?_⟩
      refine ⟨_, rfl, .inl ⟨rfl, _, SqL.of eq⟩, _, rfl, _, rfl, q, _, rfl, .inl (SqL.of eq), ?_⟩
      rw [List.length_map]
      refine ⟨pt, n + i, _, rfl, hpi, by omega, by omega, by omega, fun r H2 r0 r1 hp2 f2 => ?_⟩
      have hk : r.toNat < rest.length := by omega
      have eq2 : H2 q = some (.lst (rest.map V.str)) := f2.keep _ _ eq (by simpa using npq.symm)
      have eD2 : H2 D = some (.lst (acc.map V.str)) := f2.keep _ _ eD (by simpa using npD.symm)
      refine ⟨q, rest.map V.str, r, r.toNat, .str rest[r.toNat], rfl, rfl, eq2, by omega, by omega, idx_of r0 (by rw [List.length_map]; exact r1), (by rw [List.getElem?_map, List.getElem?_eq_getElem hk]; rfl), ?_⟩
      rw [map_eraseS]
      refine ⟨acc.map V.str, (by rw [upd_ne nqD.symm]; exact eD2), sz5 (by rw [List.length_map]; omega), acc ++ [rest[r.toNat]], rest.eraseIdx r.toNat, (by rw [upd_same, snocV]), (by rw [upd_ne nqD, upd_same]), (pop_perm (List.getElem?_eq_getElem hk)).trans pr, (by rw [List.length_append, ea]; rfl), hp2.stay fun u e => (by rw [upd_ne npD, upd_ne npq]; exact e), fun b u e nb => ?_⟩
      have e1 := f2.keep _ _ (kp b u e nb) (by simpa using nb)
      rw [upd_ne (ne_of_none e hD0), upd_ne (ne_of_none e hq)]
      exact e1
    rintro H1 ⟨ord, rest, eD, _, pr, ea, hp1, kp1⟩
    rw [List.length_map] at ea hp1
    have hrest : rest = [] := by
      have z := pr.length_eq
      rw [List.length_append] at z
      exact List.eq_nil_of_length_eq_zero (by omega)
    rw [hrest, List.append_nil] at pr
    have eoL : ord.length = l.length := pr.length_eq
    refine ⟨_, rfl, _, rfl, _, rfl, D, _, rfl, .inl (SqL.of eD), ?_⟩
    rw [List.length_map]
    refine ⟨pt, n + l.length, _, rfl, hp1, by omega, by omega, by omega, fun r H2 r0 r1 hp2 f2 => ?_⟩
    have hk : r.toNat < ord.length := by omega
    have eD2 : H2 D = some (.lst (ord.map V.str)) := f2.keep _ _ eD (by simpa using npD.symm)
    have kp2 : ∀ b u, H b = some u → b ≠ pt → H2 b = some u := fun b u e nb => f2.keep _ _ (kp1 b u e nb) (by simpa using nb)
    have eat : atI (ord.map V.str) r = some (V.str ord[r.toNat]) := by
      have z : atI (ord.map V.str) ((r.toNat : Nat) : Int) = some (V.str ord[r.toNat]) := atI_nat (by rw [List.getElem?_map, List.getElem?_eq_getElem hk]; rfl)
      rw [Int.toNat_of_nonneg r0] at z
      exact z
    have hone : ord[r.toNat] ∈ ord := List.getElem_mem hk
    generalize ord[r.toNat] = one at eat hone
    refine ⟨D, _, _, .str one, rfl, rfl, SqL.of eD2, eat, ?_⟩
    have ol : ord.length ≤ 100000 := by omega
    refine ⟨_, rfl, D, rfl, ⟨_, SqL.of eD2⟩, fun A1 hA1 => ?_⟩
    refine lcNew (hs := ord) (R := fun H x v => WhatR H (.hear x lHeard) v) (fun _ _ _ _ t z => z.stay t) (SqL.of eD2) hA1 ol (fun x H Q kk => hear1 rfl H Q kk) (fun H3 ans hA3 pA s3 => ?_)
    have eD3 := s3 _ _ eD2
    have al := paired_len pA
    refine ⟨(by show 1 ≤ sizeLine; decide), fun t ht => ⟨(by show 1 ≤ sizeLine; decide), fun q6 hq6 => ?_⟩⟩
    have s4 : Same H3 (upd (upd H3 t (.tup [.str "wish"])) q6 (.lst [.ref t])) := (same_new ht).trans (same_new hq6)
    have et : (upd (upd H3 t (.tup [.str "wish"])) q6 (.lst [.ref t])) t = some (.tup [.str "wish"]) := same_new hq6 _ _ upd_same
    have e6 : (upd (upd H3 t (.tup [.str "wish"])) q6 (.lst [.ref t])) q6 = some (.lst [.ref t]) := upd_same
    refine ⟨_, rfl, q6, A1, _, _, rfl, rfl, e6, s4 _ _ hA3, sz5' (by show 1 + ans.length ≤ _; omega), fun q7 hq7 => ?_⟩
    have s5 := s4.trans (same_new (o := .lst ([.ref t] ++ ans)) hq7)
    have e7 : (upd (upd (upd H3 t (.tup [.str "wish"])) q6 (.lst [.ref t])) q7 (.lst ([.ref t] ++ ans))) q7 = some (.lst ([.ref t] ++ ans)) := upd_same
    have et5 : (upd (upd (upd H3 t (.tup [.str "wish"])) q6 (.lst [.ref t])) q7 (.lst ([.ref t] ++ ans))) t = some (.tup [.str "wish"]) := same_new hq7 _ _ et
    generalize upd (upd (upd H3 t (.tup [.str "wish"])) q6 (.lst [.ref t])) q7 (.lst ([.ref t] ++ ans)) = H5 at s5 e7 et5 ⊢
    refine ⟨_, rfl, D, rfl, ⟨_, SqL.of (s5 _ _ eD3)⟩, fun A2 hA2 => ?_⟩
    refine lcNew (hs := ord) (R := fun H x v => WhatR H (.hear x (lWord wClear)) v) (fun _ _ _ _ t z => z.stay t) (SqL.of (s5 _ _ eD3)) hA2 ol (fun x H Q kk => hear2 rfl H Q kk) (fun H6 cls hA6 pC s6 => ?_)
    have cl := paired_len pC
    refine ⟨q7, A2, _, _, rfl, rfl, s6 _ _ e7, hA6, sz5' (by rw [List.length_append]; show 1 + ans.length + cls.length ≤ _; omega), fun q8 hq8 => ?_⟩
    have s7 := s6.trans (same_new (o := .lst ([.ref t] ++ ans ++ cls)) hq8)
    have e8 : (upd H6 q8 (.lst ([.ref t] ++ ans ++ cls))) q8 = some (.lst ([.ref t] ++ ans ++ cls)) := upd_same
    have pC7 := Paired.mapP pC fun _ _ z => z.stay fun b ys e => same_new (o := .lst ([.ref t] ++ ans ++ cls)) hq8 _ _ e
    change tSeq _ _ _ _ (upd H6 q8 (.lst ([.ref t] ++ ans ++ cls)))
    generalize upd H6 q8 (.lst ([.ref t] ++ ans ++ cls)) = H7 at s7 e8 pC7 ⊢
    -- found + [open] + answers
    refine ⟨_, rfl, _, rfl, (by show 1 ≤ sizeLine; decide), fun b1 hb1 => ⟨(by show 3 ≤ sizeLine; decide), fun t1 ht1 => ⟨(by show 1 ≤ sizeLine; decide), fun q9 hq9 => ?_⟩⟩⟩
    have s8 : Same H7 (upd (upd (upd H7 b1 (.tup [.str "open"])) t1 (.tup [.str "hear", .str one, .ref b1])) q9 (.lst [.ref t1])) := ((same_new hb1).trans (same_new ht1)).trans (same_new hq9)
    have eo : WhatR (upd (upd (upd H7 b1 (.tup [.str "open"])) t1 (.tup [.str "hear", .str one, .ref b1])) q9 (.lst [.ref t1])) (.hear one lOpen) (.ref t1) := ⟨t1, rfl, b1, same_new hq9 _ _ upd_same, same_new hq9 _ _ (same_new ht1 _ _ upd_same)⟩
    refine ⟨q8, q9, _, _, rfl, rfl, s8 _ _ e8, upd_same, sz5' (by rw [List.length_append, List.length_append]; show 1 + ans.length + cls.length + 1 ≤ _; omega), fun q10 hq10 => ?_⟩
    have s9 := s8.trans (same_new (o := .lst ([.ref t] ++ ans ++ cls ++ [.ref t1])) hq10)
    have e10 : (upd (upd (upd (upd H7 b1 (.tup [.str "open"])) t1 (.tup [.str "hear", .str one, .ref b1])) q9 (.lst [.ref t1])) q10 (.lst ([.ref t] ++ ans ++ cls ++ [.ref t1]))) q10 = some (.lst ([.ref t] ++ ans ++ cls ++ [.ref t1])) := upd_same
    have eo9 := eo.stay fun b ys e => same_new (o := .lst ([.ref t] ++ ans ++ cls ++ [.ref t1])) hq10 _ _ e
    generalize upd (upd (upd (upd H7 b1 (.tup [.str "open"])) t1 (.tup [.str "hear", .str one, .ref b1])) q9 (.lst [.ref t1])) q10 (.lst ([.ref t] ++ ans ++ cls ++ [.ref t1])) = H9 at s9 e10 eo9 ⊢
    have s37 := s5.trans s7
    have s39 := s37.trans s9
    refine ⟨_, rfl, q10, A1, _, _, rfl, rfl, e10, s39 _ _ hA3, sz5' (by rw [List.length_append, List.length_append, List.length_append]; show 1 + ans.length + cls.length + 1 + ans.length ≤ _; omega), fun q11 hq11 => ?_⟩
    have s10 := same_new (o := .lst ([.ref t] ++ ans ++ cls ++ [.ref t1] ++ ans)) hq11
    have e11 : (upd H9 q11 (.lst ([.ref t] ++ ans ++ cls ++ [.ref t1] ++ ans))) q11 = some (.lst ([.ref t] ++ ans ++ cls ++ [.ref t1] ++ ans)) := upd_same
    generalize upd H9 q11 (.lst ([.ref t] ++ ans ++ cls ++ [.ref t1] ++ ans)) = H10 at s10 e11 ⊢
    -- found + [word]
    have s2a : Same H2 H10 := (s3.trans s39).trans s10
    have hp10 := hp2.stay fun u e => s2a _ _ e
    refine ⟨_, rfl, _, rfl, (by show 2 ≤ sizeLine; decide), fun q12 hq12 => ⟨_, rfl, pt, n + l.length + 1, _, rfl, (hp10.stay fun u e => same_new hq12 _ _ e), by omega, by decide, by decide, fun r2 H12 z0 z1 hp12 f12 => ?_⟩⟩
    obtain ⟨wd, hwd, hat⟩ : ∃ wd : Str, (wd = wClear ∨ wd = wBarred) ∧ atI [V.str "clear", V.str "barred"] r2 = some (.str wd) := by
      have c : r2 = 0 ∨ r2 = 1 := by omega
      rcases c with rfl | rfl
      · exact ⟨_, .inl rfl, rfl⟩
      · exact ⟨_, .inr rfl, rfl⟩
    have hpt10 : ∀ b u, H10 b = some u → b ≠ pt → H12 b = some u := fun b u e nb => f12.keep _ _ (same_new hq12 _ _ e) (by simpa using nb)
    have hq12' : (upd H10 q12 (.lst [.str "clear", .str "barred"])) q12 = some (.lst [.str "clear", .str "barred"]) := upd_same
    obtain ⟨u10, hu10, _⟩ := hp10.some
    have n12 : q12 ≠ pt := (ne_of_none hu10 hq12).symm
    have e12 : H12 q12 = some (.lst [.str "clear", .str "barred"]) := f12.keep _ _ hq12' (by simpa using n12)
    have n11 : q11 ≠ pt := fun z => by
      obtain ⟨p0, p1, p2, e, _⟩ := hp10
      rw [z, e] at e11
      injection e11 with e1
      injection e1 with e2
      injection e2 with e3 _
      cases e3
    have e11' := hpt10 _ _ e11 n11
    have kp10 : ∀ b u, H b = some u → b ≠ pt → H10 b = some u := fun b u e nb => s2a _ _ (kp2 b u e nb)
    refine ⟨q12, _, _, .str wd, rfl, rfl, SqL.of e12, hat, (by show 2 ≤ sizeLine; decide), fun b2 hb2 => ⟨(by show 3 ≤ sizeLine; decide), fun t2 ht2 => ⟨(by show 1 ≤ sizeLine; decide), fun q13 hq13 => ?_⟩⟩⟩
    have s13 : Same H12 (upd (upd (upd H12 b2 (.tup [.str "word", .str wd])) t2 (.tup [.str "hear", .str one, .ref b2])) q13 (.lst [.ref t2])) := ((same_new hb2).trans (same_new ht2)).trans (same_new hq13)
    have ew : WhatR (upd (upd (upd H12 b2 (.tup [.str "word", .str wd])) t2 (.tup [.str "hear", .str one, .ref b2])) q13 (.lst [.ref t2])) (.hear one (lWord wd)) (.ref t2) := ⟨t2, rfl, b2, same_new hq13 _ _ upd_same, same_new hq13 _ _ (same_new ht2 _ _ upd_same)⟩
    have e13 : (upd (upd (upd H12 b2 (.tup [.str "word", .str wd])) t2 (.tup [.str "hear", .str one, .ref b2])) q13 (.lst [.ref t2])) q13 = some (.lst [.ref t2]) := upd_same
    generalize upd (upd (upd H12 b2 (.tup [.str "word", .str wd])) t2 (.tup [.str "hear", .str one, .ref b2])) q13 (.lst [.ref t2]) = H13 at s13 ew e13 ⊢
    refine ⟨q11, q13, _, _, rfl, rfl, s13 _ _ e11', e13, sz5' (by simp only [List.length_append, List.length_cons, List.length_nil]; omega), fun q14 hq14 => ?_⟩
    have s14 := same_new (o := .lst ([.ref t] ++ ans ++ cls ++ [.ref t1] ++ ans ++ [.ref t2])) hq14
    have hp13 : PotAt H13 pt (n + l.length + 1 + 1) := hp12.stay fun u e => s13 _ _ e
    obtain ⟨u13, hu13, _⟩ := hp13.some
    have n14 : q14 ≠ pt := (ne_of_none hu13 hq14).symm
    have kp13 : ∀ b u, H b = some u → b ≠ pt → H13 b = some u := fun b u e nb => s13 _ _ (hpt10 _ _ (kp10 b u e nb) nb)
    have free : H q14 = none := by
      cases e : H q14 with
      | none => rfl
      | some u =>
        rw [kp13 _ _ e n14] at hq14
        cases hq14
    have t10 : TStay H10 (upd H13 q14 (.lst ([.ref t] ++ ans ++ cls ++ [.ref t1] ++ ans ++ [.ref t2]))) := fun b ys e => s14 _ _ (s13 _ _ (f12.tup _ _ (same_new hq12 _ _ e)))
    have t9 : TStay H9 (upd H13 q14 (.lst ([.ref t] ++ ans ++ cls ++ [.ref t1] ++ ans ++ [.ref t2]))) := fun b ys e => t10 _ _ (s10 _ _ e)
    have t7 : TStay H7 (upd H13 q14 (.lst ([.ref t] ++ ans ++ cls ++ [.ref t1] ++ ans ++ [.ref t2]))) := fun b ys e => t9 _ _ (s9 _ _ e)
    have t5 : TStay H5 (upd H13 q14 (.lst ([.ref t] ++ ans ++ cls ++ [.ref t1] ++ ans ++ [.ref t2]))) := fun b ys e => t7 _ _ (s7 _ _ e)
    have t3 : TStay H3 (upd H13 q14 (.lst ([.ref t] ++ ans ++ cls ++ [.ref t1] ++ ans ++ [.ref t2]))) := fun b ys e => t5 _ _ (s5 _ _ e)
    have pA' := paired_mapL (R := WhatR (upd H13 q14 (.lst ([.ref t] ++ ans ++ cls ++ [.ref t1] ++ ans ++ [.ref t2])))) (f := fun x => What.hear x lHeard) (Paired.mapP pA fun _ _ z => z.stay t3)
    have pC' := paired_mapL (R := WhatR (upd H13 q14 (.lst ([.ref t] ++ ans ++ cls ++ [.ref t1] ++ ans ++ [.ref t2])))) (f := fun x => What.hear x (lWord wClear)) (Paired.mapP pC7 fun _ _ z => z.stay t7)
    refine k ord one wd _ q14 _ pr hone hwd free upd_same ?_ ((hp13.stay fun u e => s14 _ _ e).mono (by omega)) ⟨fun b ys e => ?_, fun b u e nb => ?_, fun b hb => .inl hb⟩
    · refine paired_append (paired_append (paired_append (paired_append (paired_append ?_ pA') pC') ?_) pA') ?_
      · exact .cons ⟨t, rfl, t5 _ _ et5⟩ .nil
      · exact .cons (eo9.stay t9) .nil
      · exact .cons (ew.stay fun b ys e => s14 _ _ e) .nil
    · refine s14 _ _ (kp13 _ _ e fun z => ?_)
      obtain ⟨u, hu, nt⟩ := hp.some
      rw [z, hu] at e
      cases e
      exact nt
    · exact s14 _ _ (kp13 _ _ e (by simpa using nb))
end
end Ha

/-! The law's helpers, fifth part: _law_done. -/
namespace Ha
open PySem PySem.Spec PyProof.Rows L2
/-- o.m(..) in a try -/
def tMS (C : Addr) (m : Str) (sp : Sp) (E : L2.St → XK) (ta : TE) (t : TA) : TE := fun σ H Q => ta σ H fun x H1 => ∃ a dx fs, x = .ref a ∧ H1 a = some (.ins C dx fs) ∧ fs.lookup m = none ∧ t σ H1 fun vs H2 => sp (x :: vs) H2 Q (E σ)
section
variable {X : Cx} {CX : CXT} {k : Nat} {f C : Addr} {fd : FuncData} {ps : List Str} {sp : Sp} {E : L2.St → XK} {m : Str} {pos apos : Pos} {e o : Expr} {es : List Expr} {ta : TE} {t : TA} {pl : Sem Bool}
theorem pe_mS (he : PE X o ta) (c : Cls X.K C) (hm : Meth X.K C m f) (F : FnOk X.prog X.w X.K X.mg X.base CX k f fd ps sp) (hr : Room k X.A) (hb : Binds X.K fd ps []) (hx : ∀ σ, PassesAt CX X σ (E σ)) (ha : PA X (e :: es) t)
    (hst : starEach (e :: es) X.env = (false, eval e X.env) :: starEach es X.env := by rfl) (hpl : (backTo pos (starEach es X.env)).any (·.1) = false := by rfl)
    (ht : eval (.Call (.Attribute o m apos) (e :: es) [] pos) X.env = (do
      let ov ← eval o X.env
      standAt apos.atName
      let (f, first) ← holding [ov] (getMethod ov m pl)
      callWith pos f first (backTo pos (starEach (e :: es) X.env)) (backToKw pos (keywordEach [] X.env))) := by rfl) :
    PE X (.Call (.Attribute o m apos) (e :: es) [] pos) (tMS C m sp E ta t) := by
  refine ⟨fun pins s σ H Q I hq => ?_⟩
  refine PySem.W.methodCall_KW (pl := pl) (thn (he.run pins s σ H _ I hq) fun ov s1 ⟨x, H1, I1, rx, a, dx, fs, ex, ea, l, q⟩ => ?_) ht
  subst ex
  obtain rfl : ov = Value.ref a := rx
  refine getmeth_ok I1 ea c hm l ?_
  refine PySem.W.callWith_K (first := [.ref a]) (h₀ := X.base) I.ok.mod.kin hm.kp (thn (ha.run pos pins s1 σ H1 _ I1 q) fun us s2 ⟨vs, H2, I2, rv, q2⟩ => ⟨I2.kIn, ?_⟩) hst hpl
  exact run_fnS (us := .ref a :: us) (vs := .ref a :: vs) F hr hb (hx σ) I2 (.cons rfl rv) q2
theorem pe_mS0 (he : PE X o ta) (c : Cls X.K C) (hm : Meth X.K C m f) (F : FnOk X.prog X.w X.K X.mg X.base CX k f fd ps sp) (hr : Room k X.A) (hb : Binds X.K fd ps []) (hx : ∀ σ, PassesAt CX X σ (E σ))
    (ht : eval (.Call (.Attribute o m apos) [] [] pos) X.env = (do
      let ov ← eval o X.env
      standAt apos.atName
      let (f, first) ← holding [ov] (getMethod ov m pl)
      callWith pos f first (backTo pos (starEach [] X.env)) (backToKw pos (keywordEach [] X.env))) := by rfl) :
    PE X (.Call (.Attribute o m apos) [] [] pos) (tMS C m sp E ta tNil) := by
  refine ⟨fun pins s σ H Q I hq => ?_⟩
  refine PySem.W.methodCall_KW (pl := pl) (thn (he.run pins s σ H _ I hq) fun ov s1 ⟨x, H1, I1, rx, a, dx, fs, ex, ea, l, q⟩ => ?_) ht
  subst ex
  obtain rfl : ov = Value.ref a := rx
  refine getmeth_ok I1 ea c hm l ?_
  exact PySem.W.callWith_K0 (first := [.ref a]) I1.kIn hm.kp (run_fnS (us := [.ref a]) (vs := [.ref a]) F hr hb (hx σ) I1 (.cons rfl .nil) q)
end
def spDone (K : PySem.W.Frag) (C : Addr) : Sp := fun vs H Q _ => ∃ (a : GA) (g : G) (c : Addr) (W : What), vs = [.ref a.p, .ref c] ∧ GuestAt K C H a g ∧ preS g ∧ WhatAt H c W ∧ GoodW W ∧ (stepR g W = none → ∀ H', Same H H' → Q .non H') ∧ ∀ g', stepR g W = some g' → Told K C a H g' Q
section
variable {P : Program} {w : World} {K : PySem.W.Frag} {mg : Str → Option Value} {base : Heap}
theorem fn_done (T : Tx K mg) : FnOk P w K mg base CX0 9 T.d_l_done.f T.d_l_done.fd ["_law_guest", "_law_what_here"] (spDone K T.C) := by
  have GW : FnOk P w K mg base (L2.CX P w) 7 T.d_wish.f T.d_wish.fd ["self"] (spWish K T.C T.eTwice.C) := fn_wish T
  have GU : FnOk P w K mg base (L2.CX P w) 7 T.d_unwish.f T.d_unwish.fd ["self"] (spUnwish K T.C T.eNotWished.C) := fn_unwish T
  have GJ : FnOk P w K mg base (L2.CX P w) 7 T.d_join.f T.d_join.fd ["self", "house"] (spJoin K T.C T.eTwice.C) := fn_join T
  have GP : FnOk P w K mg base (L2.CX P w) 7 T.d_part.f T.d_part.fd ["self", "house"] (spPart K T.C T.eNoRoad.C) := fn_part T
  have GH : FnOk P w K mg base (L2.CX P w) 8 T.d_hear.f T.d_hear.fd ["self", "house", "letter"] (spHear K T.C T.eNoLetter.C) := fn_hear T
  refine T.d_l_done.F.ok sc_l_done (fun vs H Q E h => ?_) (fun cdv A outer s H vs Q E hr h => ?_)
  · obtain ⟨a, g, c, W, rfl, _⟩ := h
    rfl
  · obtain ⟨a, g, c, W, rfl, G, pre, hc, hW, kE, k⟩ := h
    have nd := sc_l_done.nd
    have hr7 : Room 7 _ := hr.mono (by decide)
    refine ⟨_, pss_one (ps_try_only
      (tb := fun W => tSeq (tIfS (tTest (tOp rEq (tOp (rIxT K) (tVar 1) (tC (.int 0))) (tC (.str "wish")))) (tRet (tMS T.C "wish" (spWish K T.C T.eTwice.C) (WE W) (tVar 0) tNil)) tNext)
        (tSeq (tIfS (tTest (tOp rEq (tOp (rIxT K) (tVar 1) (tC (.int 0))) (tC (.str "unwish")))) (tRet (tMS T.C "unwish" (spUnwish K T.C T.eNotWished.C) (WE W) (tVar 0) tNil)) tNext)
        (tSeq (tIfS (tTest (tOp rEq (tOp (rIxT K) (tVar 1) (tC (.int 0))) (tC (.str "join")))) (tRet (tMS T.C "join" (spJoin K T.C T.eTwice.C) (WE W) (tVar 0) (tCons (tOp (rIxT K) (tVar 1) (tC (.int 1))) tNil))) tNext)
        (tSeq (tIfS (tTest (tOp rEq (tOp (rIxT K) (tVar 1) (tC (.int 0))) (tC (.str "part")))) (tRet (tMS T.C "part" (spPart K T.C T.eNoRoad.C) (WE W) (tVar 0) (tCons (tOp (rIxT K) (tVar 1) (tC (.int 1))) tNil))) tNext)
        (tRet (tMS T.C "hear" (spHear K T.C T.eNoLetter.C) (WE W) (tVar 0) (tCons (tOp (rIxT K) (tVar 1) (tC (.int 1))) (tCons (tOp (rIxT K) (tVar 1) (tC (.int 2))) tNil))))))))
      (ts := fun _ _ _ => tRet (tC .non)) (Wout := fun _ _ _ _ => False) rfl rfl ⟨rfl, by decide, Or.inl T.eChairError.g⟩ takes0
      (fun W pn xe tk _ => by exact (pss_cons (ps_if (pt_cmpR op_eq (pe_ix ix_tup (pv 1) pe_int (fun _ _ => rfl)) pe_str (nomark _)) (pss_one (ps_ret (pe_mS0 (pv 0) T.cl T.m_wish GW hr7 T.d_wish.b (fun σ => passAt tk σ)))) pss_nil)
        (pss_cons (ps_if (pt_cmpR op_eq (pe_ix ix_tup (pv 1) pe_int (fun _ _ => rfl)) pe_str (nomark _)) (pss_one (ps_ret (pe_mS0 (pv 0) T.cl T.m_unwish GU hr7 T.d_unwish.b (fun σ => passAt tk σ)))) pss_nil)
        (pss_cons (ps_if (pt_cmpR op_eq (pe_ix ix_tup (pv 1) pe_int (fun _ _ => rfl)) pe_str (nomark _)) (pss_one (ps_ret (pe_mS (pv 0) T.cl T.m_join GJ hr7 T.d_join.b (fun σ => passAt tk σ) (pa_cons (pe_ix ix_tup (pv 1) pe_int (fun _ _ => rfl)) pa_nil)))) pss_nil)
        (pss_cons (ps_if (pt_cmpR op_eq (pe_ix ix_tup (pv 1) pe_int (fun _ _ => rfl)) pe_str (nomark _)) (pss_one (ps_ret (pe_mS (pv 0) T.cl T.m_part GP hr7 T.d_part.b (fun σ => passAt tk σ) (pa_cons (pe_ix ix_tup (pv 1) pe_int (fun _ _ => rfl)) pa_nil)))) pss_nil)
        (pss_one (ps_ret (pe_mS (pv 0) T.cl T.m_hear GH hr T.d_hear.b (fun σ => passAt tk σ) (pa_cons (pe_ix ix_tup (pv 1) pe_int (fun _ _ => rfl)) (pa_cons (pe_ix ix_tup (pv 1) pe_int (fun _ _ => rfl)) pa_nil))))))))))
      (fun _ _ _ _ _ _ _ => pss_one (ps_ret pe_non))), ?_⟩
    cases W with
    | wish =>
      have hc : H c = some (.tup [.str "wish"]) := hc
      refine ⟨_, rfl, c, _, _, .str "wish", rfl, rfl, SqT.of hc, rfl, rfl, true, (by rfl), iteT ?_⟩
      exact ⟨_, rfl, a.p, a.dx, _, rfl, G.ob, rfl, a, g, rfl, ⟨G, pre, fun e H' s => ⟨true, T.xTwice, fun _ _ _ => kE e H' s, fun q => nomatch q⟩, fun g' e => k g' e⟩⟩
    | unwish =>
      have hc : H c = some (.tup [.str "unwish"]) := hc
      refine ⟨_, rfl, c, _, _, .str "unwish", rfl, rfl, SqT.of hc, rfl, rfl, false, (by rfl), iteF ?_⟩
      refine ⟨_, rfl, c, _, _, .str "unwish", rfl, rfl, SqT.of hc, rfl, rfl, true, (by rfl), iteT ?_⟩
      exact ⟨_, rfl, a.p, a.dx, _, rfl, G.ob, rfl, a, g, rfl, ⟨G, pre, fun e H' s => ⟨true, T.xNotWished, fun _ _ _ => kE e H' s, fun q => nomatch q⟩, fun g' e => k g' e⟩⟩
    | join h =>
      have hc : H c = some (.tup [.str "join", .str h]) := hc
      refine ⟨_, rfl, c, _, _, .str "join", rfl, rfl, SqT.of hc, rfl, rfl, false, (by rfl), iteF ?_⟩
      refine ⟨_, rfl, c, _, _, .str "join", rfl, rfl, SqT.of hc, rfl, rfl, false, (by rfl), iteF ?_⟩
      refine ⟨_, rfl, c, _, _, .str "join", rfl, rfl, SqT.of hc, rfl, rfl, true, (by rfl), iteT ?_⟩
      exact ⟨_, rfl, a.p, a.dx, _, rfl, G.ob, rfl, _, rfl, c, _, _, .str h, rfl, rfl, SqT.of hc, rfl, a, g, h, rfl, hW, ⟨G, pre, fun e H' s => ⟨true, T.xTwice, fun _ _ _ => kE e H' s, fun q => nomatch q⟩, fun g' e => k g' e⟩⟩
    | part h =>
      have hc : H c = some (.tup [.str "part", .str h]) := hc
      refine ⟨_, rfl, c, _, _, .str "part", rfl, rfl, SqT.of hc, rfl, rfl, false, (by rfl), iteF ?_⟩
      refine ⟨_, rfl, c, _, _, .str "part", rfl, rfl, SqT.of hc, rfl, rfl, false, (by rfl), iteF ?_⟩
      refine ⟨_, rfl, c, _, _, .str "part", rfl, rfl, SqT.of hc, rfl, rfl, false, (by rfl), iteF ?_⟩
      refine ⟨_, rfl, c, _, _, .str "part", rfl, rfl, SqT.of hc, rfl, rfl, true, (by rfl), iteT ?_⟩
      exact ⟨_, rfl, a.p, a.dx, _, rfl, G.ob, rfl, _, rfl, c, _, _, .str h, rfl, rfl, SqT.of hc, rfl, a, g, h, rfl, hW, ⟨G, pre, fun e H' s => ⟨true, T.xNoRoad, fun _ _ _ => kE e H' s, fun q => nomatch q⟩, fun g' e => k g' e⟩⟩
    | hear h l =>
      obtain ⟨lb, hc, hb⟩ := hc
      refine ⟨_, rfl, c, _, _, .str "hear", rfl, rfl, SqT.of hc, rfl, rfl, false, (by rfl), iteF ?_⟩
      refine ⟨_, rfl, c, _, _, .str "hear", rfl, rfl, SqT.of hc, rfl, rfl, false, (by rfl), iteF ?_⟩
      refine ⟨_, rfl, c, _, _, .str "hear", rfl, rfl, SqT.of hc, rfl, rfl, false, (by rfl), iteF ?_⟩
      refine ⟨_, rfl, c, _, _, .str "hear", rfl, rfl, SqT.of hc, rfl, rfl, false, (by rfl), iteF ?_⟩
      exact ⟨_, rfl, a.p, a.dx, _, rfl, G.ob, rfl, _, rfl, c, _, _, .str h, rfl, rfl, SqT.of hc, rfl, _, rfl, c, _, _, .ref lb, rfl, rfl, SqT.of hc, rfl, a, g, h, lb, l, rfl, hW.1, hb, hW.2, ⟨G, pre, fun e H' s => ⟨true, T.xNoLetter, fun _ _ _ => kE e H' s, fun q => nomatch q⟩, fun g' e => k g' e⟩⟩
end
end Ha

/-! The law's helpers, sixth part: _law_what. -/
namespace Ha
open PySem PySem.Spec PyProof.Rows L2
def spWhat (K : PySem.W.Frag) (C : Addr) : Sp := fun vs H Q _ => ∃ (pt hs : Addr) (a : GA) (g : G) (n : Nat) (l : List Str), vs = [.ref pt, .ref a.p, .ref hs] ∧ PotAt H pt n ∧ n ≤ 50000 ∧ GuestAt K C H a g ∧ pt ∉ a.ft ∧ H hs = some (.lst (l.map V.str)) ∧ 0 < l.length ∧ l.length ≤ 101 ∧ (∀ x ∈ l, Nm x) ∧
  ∀ W v H', GoodW W → WhatR H' W v → PotAt H' pt (n + 5) → Frm [pt] H [pt] H' → Q v H'
theorem tup_new {H : Hp} {t : Addr} {xs : List V} (ht : H t = none) : Same H (upd H t (.tup xs)) := same_new ht
section
variable {P : Program} {w : World} {K : PySem.W.Frag} {mg : Str → Option Value} {base : Heap}
theorem fn_what (T : Tx K mg) : FnOk P w K mg base CX0 4 T.d_l_what.f T.d_l_what.fd ["_law_pot_here", "_law_guest", "_law_houses_here"] (spWhat K T.C) := by
  have GD : FnOk P w K mg base CX0 1 T.d_l_dip.f T.d_l_dip.fd ["_law_pot_here", "_law_many"] spDip := fn_dip T
  have GWs : FnOk P w K mg base CX0 1 T.d_wishes.f T.d_wishes.fd ["self"] (spV K T.C fun g => .bl g.wished) := fn_wishes T
  have GHs : FnOk P w K mg base CX0 1 T.d_houses.f T.d_houses.fd ["self"] (spL K T.C fun g => srt g.keys) := fn_houses T
  have GAw : FnOk P w K mg base CX0 1 T.d_awaited.f T.d_awaited.fd ["self"] (spL K T.C fun g => srt g.waits) := fn_awaited T
  have GCh : FnOk P w K mg base CX0 1 T.d_chairs.f T.d_chairs.fd ["self"] (spL K T.C fun g => srt g.seats) := fn_chairs T
  have GHo : FnOk P w K mg base CX0 3 T.d_heard_of.f T.d_heard_of.fd ["self", "house"] (spHeardOf K T.C) := fn_heardOf T
  refine T.d_l_what.F.ok sc_l_what (fun vs H Q E h => ?_) (fun cdv A outer s H vs Q E hr h => ?_)
  · obtain ⟨pt, hs, a, g, n, l, rfl, _⟩ := h
    rfl
  · obtain ⟨pt, hs, a, g, n, l, rfl, hp, hn, G, hpa, hh, hl0, hl, hNm, k⟩ := h
    have nd := sc_l_what.nd
    have hr1 : Room 1 _ := hr.mono (by decide)
    refine ⟨_, pss_cons (ps_set (i := 3) nd rfl (.inl rfl) (pe_ix ix_list (pv 2) (pe_call GD hr1 (by rfl) T.g_l_dip T.d_l_dip.F.kp T.d_l_dip.b .nil pass0 (pa_cons (pv 0) (pa_cons (pe_callB call_len_seq (by rfl) T.b_len PySem.boot_len (pa_cons (pv 2) pa_nil)) pa_nil))) (fun _ _ => rfl)))
      (pss_cons (ps_set (i := 4) nd rfl (.inl rfl) (pe_call GD hr1 (by rfl) T.g_l_dip T.d_l_dip.F.kp T.d_l_dip.b .nil pass0 (pa_cons (pv 0) (pa_cons pe_int pa_nil))))
      (pss_cons (ps_if (pt_cmpR op_lt (pv 4) pe_int (nomark _)) (pss_one (ps_ret (pe_ifExp (pt_val (pe_meth0 (pv 1) T.cl T.m_wishes GWs hr1 T.d_wishes.b .nil pass0)) (pe_tup (pa_cons pe_str pa_nil)) (pe_tup (pa_cons pe_str pa_nil))))) pss_nil)
      (pss_cons (ps_if (pt_cmpR op_eq (pv 4) pe_int (nomark _)) (pss_one (ps_ret (pe_ix ix_list (pe_lst (pa_cons (pe_tup (pa_cons pe_str pa_nil)) (pa_cons (pe_tup (pa_cons pe_str pa_nil)) (pa_cons (pe_tup (pa_cons pe_str (pa_cons (pv 3) pa_nil))) (pa_cons (pe_tup (pa_cons pe_str (pa_cons (pv 3) pa_nil))) pa_nil)))))
        (pe_call GD hr1 (by rfl) T.g_l_dip T.d_l_dip.F.kp T.d_l_dip.b .nil pass0 (pa_cons (pv 0) (pa_cons pe_int pa_nil))) (fun _ _ => rfl)))) pss_nil)
      (pss_cons (ps_if (pt_cmpR op_notIn_seq (pv 3) (pe_meth0 (pv 1) T.cl T.m_houses GHs hr1 T.d_houses.b .nil pass0) (by rfl)) (pss_one (ps_ret (pe_tup (pa_cons pe_str (pa_cons (pv 3) pa_nil))))) pss_nil)
      (pss_cons (ps_if (pt_cmpR op_eq (pv 4) pe_int (nomark _)) (pss_one (ps_ret (pe_tup (pa_cons pe_str (pa_cons (pv 3) pa_nil))))) pss_nil)
      (pss_cons (ps_if (pt_cmpR op_lt (pv 4) pe_int (nomark _))
        (pss_cons (ps_set (i := 5) nd rfl (.inl rfl) (pe_lst (pa_cons (pe_tup (pa_cons pe_str pa_nil)) (pa_cons (pe_tup (pa_cons pe_str pa_nil)) (pa_cons (pe_tup (pa_cons pe_str pa_nil)) (pa_cons (pe_tup (pa_cons pe_str (pa_cons pe_str pa_nil))) (pa_cons (pe_tup (pa_cons pe_str (pa_cons pe_str pa_nil))) (pa_cons (pe_tup (pa_cons pe_str pa_nil)) (pa_cons (pe_tup (pa_cons pe_str (pa_cons pe_str pa_nil))) pa_nil)))))))))
        (pss_one (ps_ret (pe_tup (pa_cons pe_str (pa_cons (pv 3) (pa_cons (pe_ix ix_list (pv 5) (pe_call GD hr1 (by rfl) T.g_l_dip T.d_l_dip.F.kp T.d_l_dip.b .nil pass0 (pa_cons (pv 0) (pa_cons pe_int pa_nil))) (fun _ _ => rfl)) pa_nil))))))) pss_nil)
      (pss_cons (ps_if (PW.pt (pw_and (pt_cmpR op_lt (pv 4) pe_int (nomark _)) (pw_and1 (pt_cmpR op_in_seq (pv 3) (pe_meth0 (pv 1) T.cl T.m_awaited GAw hr1 T.d_awaited.b .nil pass0) (by rfl)))))
        (pss_one (ps_ret (pe_tup (pa_cons pe_str (pa_cons (pv 3) (pa_cons (pe_tup (pa_cons pe_str pa_nil)) pa_nil)))))) pss_nil)
      (pss_cons (ps_if (PW.pt (pw_and (pt_cmpR op_lt (pv 4) pe_int (nomark _)) (pw_and1 (pt_cmpR op_notIn_seq (pv 3) (pe_meth0 (pv 1) T.cl T.m_chairs GCh hr1 T.d_chairs.b .nil pass0) (by rfl)))))
        (pss_one (ps_ret (pe_tup (pa_cons pe_str (pa_cons (pv 3) (pa_cons (pe_tup (pa_cons pe_str pa_nil)) pa_nil)))))) pss_nil)
      (pss_cons (ps_if (pt_cmp (pc_notN (pe_meth (pv 1) T.cl T.m_heard_of GHo hr T.d_heard_of.b .nil pass0 (pa_cons (pv 3) pa_nil))))
        (pss_one (ps_ret (pe_tup (pa_cons pe_str (pa_cons (pv 3) (pa_cons (pe_tup (pa_cons pe_str pa_nil)) pa_nil)))))) pss_nil)
      (pss_one (ps_ret (pe_tup (pa_cons pe_str (pa_cons (pv 3) (pa_cons (pe_tup (pa_cons pe_str (pa_cons (pe_ix ix_list (pe_lst (pa_cons pe_str (pa_cons pe_str (pa_cons pe_str pa_nil)))) (pe_call GD hr1 (by rfl) T.g_l_dip T.d_l_dip.F.kp T.d_l_dip.b .nil pass0 (pa_cons (pv 0) (pa_cons pe_int pa_nil))) (fun _ _ => rfl)) pa_nil))) pa_nil))))))))))))))), ?_⟩
    have npt : hs ≠ pt := fun z => by
      obtain ⟨p0, p1, p2, e, _⟩ := hp
      rw [z, e] at hh
      cases l with
      | nil => cases hl0
      | cons x r =>
        injection hh with e1
        injection e1 with e2
        injection e2 with e3 _
        cases e3
    refine ⟨_, rfl, _, rfl, _, rfl, hs, _, rfl, .inl (SqL.of hh), ?_⟩
    rw [List.length_map]
    refine ⟨pt, n, _, rfl, hp, by omega, by omega, by omega, fun r H1 r0 r1 hp1 f1 => ?_⟩
    have hk : r.toNat < l.length := by omega
    have hh1 : H1 hs = some (.lst (l.map V.str)) := f1.keep _ _ hh (by simpa using npt)
    have eat : atI (l.map V.str) r = some (V.str l[r.toNat]) := by
      have z : atI (l.map V.str) ((r.toNat : Nat) : Int) = some (V.str l[r.toNat]) := atI_nat (by rw [List.getElem?_map, List.getElem?_eq_getElem hk]; rfl)
      rw [Int.toNat_of_nonneg r0] at z
      exact z
    have hNh : Nm l[r.toNat] := hNm _ (List.getElem_mem hk)
    generalize l[r.toNat] = h at eat hNh
    refine ⟨hs, _, _, .str h, rfl, rfl, SqL.of hh1, eat, ?_⟩
    refine ⟨_, rfl, pt, n + 1, _, rfl, hp1, by omega, by decide, by decide, fun way H2 w0 w1 hp2 f2 => ?_⟩
    have f02 := f1.trans f2
    have dj : ∀ b ∈ a.ft, b ∉ [pt] := fun b hb z => hpa (List.mem_singleton.mp z ▸ hb)
    have G2 := G.off f02 dj
    have fin : ∀ (W : What) v H', GoodW W → WhatR H' W v → PotAt H' pt (n + 3) → Frm [pt] H2 [pt] H' → Q v H' := fun W v H' h1 h2 h3 h4 => k W v H' h1 h2 (h3.mono (by omega)) (f02.trans h4)
    have finS : ∀ (W : What) v H', GoodW W → WhatR H' W v → Same H2 H' → Q v H' := fun W v H' h1 h2 h3 => fin W v H' h1 h2 ((hp2.stay fun u e => h3 _ _ e).mono (by omega)) (Frm.same h3)
    -- a wish or its end
    refine ⟨_, rfl, _, _, rfl, rfl, _, rfl, ?_⟩
    by_cases c2 : way < 2
    · rw [decide_eq_true c2]
      refine iteT ?_
      refine ⟨_, rfl, a.p, a.dx, _, rfl, G2.ob, rfl, a, g, rfl, G2, _, rfl, ?_⟩
      cases g.wished with
      | true => exact iteT ⟨(by show 1 ≤ sizeLine; decide), fun t ht => finS .unwish _ _ trivial ⟨t, rfl, upd_same⟩ (same_new ht)⟩
      | false => exact iteF ⟨(by show 1 ≤ sizeLine; decide), fun t ht => finS .wish _ _ trivial ⟨t, rfl, upd_same⟩ (same_new ht)⟩
    rw [decide_eq_false c2]
    refine iteF ?_
    refine ⟨_, rfl, rfl, _, rfl, ?_⟩
    by_cases c3 : V.int way = V.int 2
    · rw [decide_eq_true c3]
      refine iteT ?_
      refine ⟨(by show 1 ≤ sizeLine; decide), fun t1 ht1 => ⟨(by show 1 ≤ sizeLine; decide), fun t2 ht2 => ⟨_, rfl, (by show 2 ≤ sizeLine; decide), fun t3 ht3 => ⟨_, rfl, (by show 2 ≤ sizeLine; decide), fun t4 ht4 => ⟨(by show 4 ≤ sizeLine; decide), fun q hq => ?_⟩⟩⟩⟩⟩
      have s5 := same_new (o := .lst [.ref t1, .ref t2, .ref t3, .ref t4]) hq
      have s4 := (same_new (o := .tup [.str "join", .str h]) ht4).trans s5
      have s3 := (same_new (o := .tup [.str "part", .str h]) ht3).trans s4
      have s2 := (same_new (o := .tup [.str "unwish"]) ht2).trans s3
      have s1 := (same_new (o := .tup [.str "wish"]) ht1).trans s2
      have e1 := s2 _ _ (upd_same (a := t1))
      have e2 := s3 _ _ (upd_same (a := t2))
      have e3 := s4 _ _ (upd_same (a := t3))
      have e4 := s5 _ _ (upd_same (a := t4))
      have eq := upd_same (H := upd (upd (upd (upd H2 t1 (.tup [.str "wish"])) t2 (.tup [.str "unwish"])) t3 (.tup [.str "part", .str h])) t4 (.tup [.str "join", .str h])) (a := q) (o := .lst [.ref t1, .ref t2, .ref t3, .ref t4])
      generalize upd (upd (upd (upd (upd H2 t1 (.tup [.str "wish"])) t2 (.tup [.str "unwish"])) t3 (.tup [.str "part", .str h])) t4 (.tup [.str "join", .str h])) q (.lst [.ref t1, .ref t2, .ref t3, .ref t4]) = H7 at s1 e1 e2 e3 e4 eq ⊢
      have hp7 := hp2.stay fun u e => s1 _ _ e
      refine ⟨_, rfl, pt, n + 1 + 1, _, rfl, hp7, by omega, by decide, by decide, fun r3 H8 z0 z1 hp8 f8 => ?_⟩
      have nq : q ≠ pt := fun z => by
        obtain ⟨p0, p1, p2, e, _⟩ := hp7
        rw [z, e] at eq
        injection eq with y1
        injection y1 with y2
        injection y2 with y3 _
        cases y3
      have eq8 : H8 q = some (.lst [.ref t1, .ref t2, .ref t3, .ref t4]) := f8.keep _ _ eq (by simpa using nq)
      have fr : Frm [pt] H2 [pt] H8 := (Frm.same s1).trans f8
      have cs : r3 = 0 ∨ r3 = 1 ∨ r3 = 2 ∨ r3 = 3 := by omega
      rcases cs with rfl | rfl | rfl | rfl
      · exact ⟨q, _, _, .ref t1, rfl, rfl, SqL.of eq8, rfl, fin .wish _ _ trivial ⟨t1, rfl, f8.tup _ _ e1⟩ hp8 fr⟩
      · exact ⟨q, _, _, .ref t2, rfl, rfl, SqL.of eq8, rfl, fin .unwish _ _ trivial ⟨t2, rfl, f8.tup _ _ e2⟩ hp8 fr⟩
      · exact ⟨q, _, _, .ref t3, rfl, rfl, SqL.of eq8, rfl, fin (.part h) _ _ hNh ⟨t3, rfl, f8.tup _ _ e3⟩ hp8 fr⟩
      · exact ⟨q, _, _, .ref t4, rfl, rfl, SqL.of eq8, rfl, fin (.join h) _ _ hNh ⟨t4, rfl, f8.tup _ _ e4⟩ hp8 fr⟩
    rw [decide_eq_false c3]
    refine iteF ?_
    refine ⟨_, rfl, _, rfl, a.p, a.dx, _, rfl, G2.ob, rfl, a, g, rfl, G2, fun p hp => ⟨p, _, rfl, .inl (SqL.of upd_same), rfl, flat_strs _, _, rfl, ?_⟩⟩
    show (if (if true = true then !inV (.str h) ((srt g.keys).map V.str) else _) = true then _ else _)
    rw [if_pos rfl, inV_strs]
    have sx := same_new (o := .lst ((srt g.keys).map V.str)) hp
    generalize upd H2 p (.lst ((srt g.keys).map V.str)) = Hx at sx ⊢
    by_cases m : h ∈ srt g.keys
    rotate_left
    · rw [decide_eq_false m]
      exact iteT ⟨_, rfl, (by show 2 ≤ sizeLine; decide), fun t ht => finS (.join h) _ _ hNh ⟨t, rfl, upd_same⟩ (sx.trans (same_new ht))⟩
    rw [decide_eq_true m]
    refine iteF ?_
    have mk : h ∈ g.keys := srt_mem.mp m
    refine ⟨_, rfl, rfl, _, rfl, ?_⟩
    by_cases c4 : V.int way = V.int 3
    · rw [decide_eq_true c4]
      exact iteT ⟨_, rfl, (by show 2 ≤ sizeLine; decide), fun t ht => finS (.part h) _ _ hNh ⟨t, rfl, upd_same⟩ (sx.trans (same_new ht))⟩
    rw [decide_eq_false c4]
    refine iteF ?_
    refine ⟨_, rfl, _, _, rfl, rfl, _, rfl, ?_⟩
    by_cases c6 : way < 6
    · rw [decide_eq_true c6]
      refine iteT ?_
      refine ⟨(by show 1 ≤ sizeLine; decide), fun t1 ht1 => ⟨(by show 1 ≤ sizeLine; decide), fun t2 ht2 => ⟨(by show 1 ≤ sizeLine; decide), fun t3 ht3 => ⟨(by show 2 ≤ sizeLine; decide), fun t4 ht4 => ⟨(by show 2 ≤ sizeLine; decide), fun t5 ht5 => ⟨(by show 1 ≤ sizeLine; decide), fun t6 ht6 => ⟨(by show 2 ≤ sizeLine; decide), fun t7 ht7 => ⟨(by show 7 ≤ sizeLine; decide), fun q hq => ?_⟩⟩⟩⟩⟩⟩⟩⟩
      have s8 := same_new (o := .lst [.ref t1, .ref t2, .ref t3, .ref t4, .ref t5, .ref t6, .ref t7]) hq
      have s7 := (same_new (o := .tup [.str "word", .str "in"]) ht7).trans s8
      have s6 := (same_new (o := .tup [.str "back"]) ht6).trans s7
      have s5 := (same_new (o := .tup [.str "word", .str "barred"]) ht5).trans s6
      have s4 := (same_new (o := .tup [.str "word", .str "clear"]) ht4).trans s5
      have s3 := (same_new (o := .tup [.str "chair"]) ht3).trans s4
      have s2 := (same_new (o := .tup [.str "heard"]) ht2).trans s3
      have s1 := (same_new (o := .tup [.str "open"]) ht1).trans s2
      have e1 := s2 _ _ (upd_same (a := t1))
      have e2 := s3 _ _ (upd_same (a := t2))
      have e3 := s4 _ _ (upd_same (a := t3))
      have e4 := s5 _ _ (upd_same (a := t4))
      have e5 := s6 _ _ (upd_same (a := t5))
      have e6 := s7 _ _ (upd_same (a := t6))
      have e7 := s8 _ _ (upd_same (a := t7))
      have eq := upd_same (H := upd (upd (upd (upd (upd (upd (upd Hx t1 (.tup [.str "open"])) t2 (.tup [.str "heard"])) t3 (.tup [.str "chair"])) t4 (.tup [.str "word", .str "clear"])) t5 (.tup [.str "word", .str "barred"])) t6 (.tup [.str "back"])) t7 (.tup [.str "word", .str "in"])) (a := q) (o := .lst [.ref t1, .ref t2, .ref t3, .ref t4, .ref t5, .ref t6, .ref t7])
      generalize upd (upd (upd (upd (upd (upd (upd (upd Hx t1 (.tup [.str "open"])) t2 (.tup [.str "heard"])) t3 (.tup [.str "chair"])) t4 (.tup [.str "word", .str "clear"])) t5 (.tup [.str "word", .str "barred"])) t6 (.tup [.str "back"])) t7 (.tup [.str "word", .str "in"])) q (.lst [.ref t1, .ref t2, .ref t3, .ref t4, .ref t5, .ref t6, .ref t7]) = H7 at s1 e1 e2 e3 e4 e5 e6 e7 eq ⊢
      have sx7 := sx.trans s1
      have hp7 := hp2.stay fun u e => sx7 _ _ e
      refine ⟨_, rfl, _, rfl, _, rfl, pt, n + 1 + 1, _, rfl, hp7, by omega, by decide, by decide, fun r3 H8 z0 z1 hp8 f8 => ?_⟩
      have nq : q ≠ pt := fun z => by
        obtain ⟨p0, p1, p2, e, _⟩ := hp7
        rw [z, e] at eq
        injection eq with y1
        injection y1 with y2
        injection y2 with y3 _
        cases y3
      have eq8 : H8 q = some (.lst [.ref t1, .ref t2, .ref t3, .ref t4, .ref t5, .ref t6, .ref t7]) := f8.keep _ _ eq (by simpa using nq)
      have fr : Frm [pt] H2 [pt] H8 := (Frm.same sx7).trans f8
      obtain ⟨lt, b, hL, hb, hat⟩ : ∃ (lt : List Str) (b : Addr), L7 lt ∧ H8 b = some (.tup (lt.map V.str)) ∧ atI [V.ref t1, .ref t2, .ref t3, .ref t4, .ref t5, .ref t6, .ref t7] r3 = some (.ref b) := by
        have cs : r3 = 0 ∨ r3 = 1 ∨ r3 = 2 ∨ r3 = 3 ∨ r3 = 4 ∨ r3 = 5 ∨ r3 = 6 := by omega
        rcases cs with rfl | rfl | rfl | rfl | rfl | rfl | rfl
        · exact ⟨lOpen, t1, .inl rfl, f8.tup _ _ e1, rfl⟩
        · exact ⟨lHeard, t2, .inr (.inl rfl), f8.tup _ _ e2, rfl⟩
        · exact ⟨lChair, t3, .inr (.inr (.inl rfl)), f8.tup _ _ e3, rfl⟩
        · exact ⟨lWord wClear, t4, .inr (.inr (.inr (.inr (.inl rfl)))), f8.tup _ _ e4, rfl⟩
        · exact ⟨lWord wBarred, t5, .inr (.inr (.inr (.inr (.inr (.inl rfl))))), f8.tup _ _ e5, rfl⟩
        · exact ⟨lBack, t6, .inr (.inr (.inr (.inl rfl))), f8.tup _ _ e6, rfl⟩
        · exact ⟨lWord wIn, t7, .inr (.inr (.inr (.inr (.inr (.inr rfl))))), f8.tup _ _ e7, rfl⟩
      refine ⟨q, _, _, .ref b, rfl, rfl, SqL.of eq8, hat, (by show 3 ≤ sizeLine; decide), fun t ht => ?_⟩
      exact fin (.hear h lt) _ _ ⟨hNh, hL⟩ ⟨t, rfl, b, upd_same, same_new ht _ _ hb⟩ (hp8.stay fun u e => same_new ht _ _ e) (fr.trans (Frm.new ht))
    rw [decide_eq_false c6]
    refine iteF ?_
    -- an answer that is awaited
    have ends : ∀ (x : Str) (Hz : Hp), L7 [x] → Same H2 Hz → ∀ (v4 v5 : Option V) (D : Ends), D.rt = Q → tRet (tTup (tCons (tC (.str "hear")) (tCons (tVar 3) (tCons (tTup (tCons (tC (.str x)) tNil)) tNil)))) D [some (.ref pt), some (.ref a.p), some (.ref hs), some (.str h), v4, v5] Hz := by
      intro x Hz hx sz v4 v5 D eD
      refine hear1 rfl _ _ fun v H' s' w' => ?_
      rw [eD]
      exact finS (.hear h [x]) v H' ⟨hNh, hx⟩ w' (sz.trans s')
    refine ⟨_, rfl, _, _, rfl, rfl, _, rfl, ?_⟩
    by_cases c12 : way < 12
    rotate_left
    rw [decide_eq_false c12]
    refine iteF ?_
    rotate_left
    rw [decide_eq_true c12]
    refine iteT ?_
    have Gx := G2.same sx
    refine ⟨_, rfl, _, rfl, a.p, a.dx, _, rfl, Gx.ob, rfl, a, g, rfl, Gx, fun p hp => ⟨p, _, rfl, .inl (SqL.of upd_same), rfl, flat_strs _, _, rfl, ?_⟩⟩
    show (if (if false = true then _ else inV (.str h) ((srt g.waits).map V.str)) = true then _ else _)
    rw [if_neg Bool.false_ne_true, inV_strs]
    have sx := sx.trans (same_new (o := .lst ((srt g.waits).map V.str)) hp)
    generalize upd Hx p (.lst ((srt g.waits).map V.str)) = Hx at sx ⊢
    by_cases mw : h ∈ srt g.waits
    · rw [decide_eq_true mw]
      exact iteT (ends "heard" Hx (.inr (.inl rfl)) sx _ _ _ rfl)
    rw [decide_eq_false mw]
    refine iteF ?_
    all_goals
      refine ⟨_, rfl, _, _, rfl, rfl, _, rfl, ?_⟩
      by_cases c14 : way < 14
      rotate_left
      rw [decide_eq_false c14]
      refine iteF ?_
      rotate_left
      rw [decide_eq_true c14]
      refine iteT ?_
      have Gx := G2.same sx
      refine ⟨_, rfl, _, rfl, a.p, a.dx, _, rfl, Gx.ob, rfl, a, g, rfl, Gx, fun p hp => ⟨p, _, rfl, .inl (SqL.of upd_same), rfl, flat_strs _, _, rfl, ?_⟩⟩
      show (if (if true = true then !inV (.str h) ((srt g.seats).map V.str) else _) = true then _ else _)
      rw [if_pos rfl, inV_strs]
      have sx := sx.trans (same_new (o := .lst ((srt g.seats).map V.str)) hp)
      generalize upd Hx p (.lst ((srt g.seats).map V.str)) = Hx at sx ⊢
      by_cases ms : h ∈ srt g.seats
      rw [decide_eq_true ms]
      refine iteF ?_
      rotate_left
      · rw [decide_eq_false ms]
        exact iteT (ends "chair" Hx (.inr (.inr (.inl rfl))) sx _ _ _ rfl)
      all_goals
        have Gx := G2.same sx
        refine ⟨_, rfl, a.p, a.dx, _, rfl, Gx.ob, rfl, _, rfl, a, g, h, rfl, Gx, hNh, mk, fun Hy sy => ⟨_, rfl, ?_⟩⟩
        have sy := sx.trans sy
        cases hv : heardV g h with
        | some x => exact iteT (ends "open" Hy (.inl rfl) sy _ _ _ rfl)
        | none =>
          refine iteF ?_
          refine ⟨_, rfl, (by show 3 ≤ sizeLine; decide), fun q hq => ?_⟩
          have sq := sy.trans (same_new (o := .lst [.str "clear", .str "clear", .str "barred"]) hq)
          have eq := upd_same (H := Hy) (a := q) (o := .lst [.str "clear", .str "clear", .str "barred"])
          generalize upd Hy q (.lst [.str "clear", .str "clear", .str "barred"]) = H7 at sq eq ⊢
          have hp7 := hp2.stay fun u e => sq _ _ e
          refine ⟨_, rfl, pt, n + 1 + 1, _, rfl, hp7, by omega, by decide, by decide, fun r3 H8 z0 z1 hp8 f8 => ?_⟩
          have nq : q ≠ pt := fun z => by
            obtain ⟨p0, p1, p2, e, _⟩ := hp7
            rw [z, e] at eq
            injection eq with y1
            injection y1 with y2
            injection y2 with y3 _
            cases y3
          have eq8 : H8 q = some (.lst [.str "clear", .str "clear", .str "barred"]) := f8.keep _ _ eq (by simpa using nq)
          have fr : Frm [pt] H2 [pt] H8 := (Frm.same sq).trans f8
          obtain ⟨wd, hL, hat⟩ : ∃ wd : Str, L7 (lWord wd) ∧ atI [V.str "clear", .str "clear", .str "barred"] r3 = some (.str wd) := by
            have cs : r3 = 0 ∨ r3 = 1 ∨ r3 = 2 := by omega
            rcases cs with rfl | rfl | rfl
            · exact ⟨wClear, .inr (.inr (.inr (.inr (.inl rfl)))), rfl⟩
            · exact ⟨wClear, .inr (.inr (.inr (.inr (.inl rfl)))), rfl⟩
            · exact ⟨wBarred, .inr (.inr (.inr (.inr (.inr (.inl rfl))))), rfl⟩
          refine ⟨q, _, _, .str wd, rfl, rfl, SqL.of eq8, hat, (by show 2 ≤ sizeLine; decide), fun b hb => ⟨(by show 3 ≤ sizeLine; decide), fun t ht => ?_⟩⟩
          have st := (same_new (o := .tup [.str "word", .str wd]) hb).trans (same_new (o := .tup [.str "hear", .str h, .ref b]) ht)
          have eb : (upd (upd H8 b (.tup [.str "word", .str wd])) t (.tup [.str "hear", .str h, .ref b])) b = some (.tup ((lWord wd).map V.str)) := same_new ht _ _ upd_same
          exact fin (.hear h (lWord wd)) _ _ ⟨hNh, hL⟩ ⟨t, rfl, b, upd_same, eb⟩ (hp8.stay fun u e => st _ _ e) (fr.trans (Frm.same st))
end
end Ha

/-! repr of a list looks at the caller's guards, of which the layer's promises know nothing. So: a promise that is kept where no guard stands, how such a def is shown to keep it, how it is called, and the head for a law that wants it. -/
namespace Ha
open PySem PySem.Spec PyProof.Rows L2
/-- a def keeps its promise wherever no guard stands -/
structure FnG (P : Program) (w : World) (K : PySem.W.Frag) (mg : Str → Option Value) (base : Heap) (k : Nat) (f : Addr) (fd : FuncData) (ps : List Str) (sp : Sp) : Prop where
  len : ∀ vs H Q E, sp vs H Q E → vs.length = ps.length
  run : ∀ (A : Around), A.guards = some [] → ∀ (outer : List Env) (s : Shared) (H : Hp) (args : Args) (us : List Value) (vs : List V) (Q : VK), Room k A → Env0 P w K mg base A outer s H → BindsTo s fd args (ps.zip us) → Vals vs us → sp vs H Q E0 →
    codeAny (model P w) A (.call (.ref f) args) (CR CX0 outer P w H s Q E0) s
section
variable {P : Program} {w : World} {K : PySem.W.Frag} {mg : Str → Option Value} {base : Heap}
/-- from the walk of its body -/
theorem Df.okG {x qual : Str} {st : Stmt} {ps : List Str} (T : Df K x qual st ps) {N : List Str} {k : Nat} {sp : Sp} (S : FnScope N ps (defScope st)) (len : ∀ vs H Q E, sp vs H Q E → vs.length = ps.length)
    (body : ∀ (cdv : Value) (A : Around) (outer : List Env) (s : Shared) (H : Hp) (vs : List V) (Q : VK), A.guards = some [] → Room k (A.deeper (envOfC qual (defScope st) s.heap.objs.size T.f cdv)) → sp vs H Q E0 →
      ∃ t, PSs (cxOf CX0 P w K mg base N qual (defScope st) T.f cdv A outer s H E0).nox (defBody st) t ∧ t { nx := fun _ H' => Q .non H', rt := Q } (start N vs) H) : FnG P w K mg base (k + 1) T.f T.fd ps sp := by
  refine ⟨len, fun A hg outer s H args us vs Q hr e0 hb rv hs => ?_⟩
  obtain ⟨oc, od, kV, doc, pm, an, cdv, ct, osl, efd, lk, hcd⟩ := T.F.ex
  rw [efd] at lk hb
  have inK : K.In s.heap := e0.mod.kin.keeps fun b o e => (e0.bs b o e).1
  obtain ⟨t, ht, hq⟩ := body cdv A outer s H vs Q hg (hr.deeper _) hs
  have el : us.length = ps.length := by
    rw [← rv.length]
    exact len _ _ _ _ hs
  refine codeAny_call_function hr.depth (inK _ _ lk) rfl S.co S.gen rfl (PySem.W.codeRec_of inK hcd) (hb _ _ _ _ ?_)
  refine wpAny_newFunctionEnv_cells S.kind (fun y hy => ?_) fun env he s1 near => ?_
  · rcases S.par y.1 (List.of_mem_zip (a := y.1) (b := y.2) hy).1 with q | q
    · exact .inl q
    · exact .inr ⟨q, PySem.W.cellsFrom_some _ _ _ (.inl q)⟩
  · cases he
    refine ⟨(e0.mod.nolimit.keeps fun b o e => (e0.bs b o e).1).keeps near.toInCall.keep, codeAny_func ?_⟩
    refine wpAny_mono (ht.nox.run [] s1 (start N vs) H _ (inv_start S hr.hd e0 (len _ _ _ _ hs) rv near) hq) (fun fl s2 hfl => ?_) fun _ _ z => z
    match fl, hfl with
    | .ret _, ⟨v, _, H', J, rel, q⟩ => exact ⟨v, H', J.os, J.bare, J.base, J.hok, rel, q⟩
    | .next, ⟨_, H', J, q⟩ => exact ⟨.non, H', J.os, J.bare, J.base, J.hok, rfl, q⟩
    | .brk, ⟨_, _, _, q⟩ => exact q.elim
    | .cont, ⟨_, _, _, q⟩ => exact q.elim
end
/-- f(e, ..), f such a def, from a place without guards -/
theorem pe_callG {X : Cx} {k : Nat} {f : Addr} {fd : FuncData} {ps : List Str} {sp : Sp} {x : Str} {p pos : Pos} {e : Expr} {es : List Expr} {t : TA} (F : FnG X.prog X.w X.K X.mg X.base k f fd ps sp) (hgd : X.A.guards = some []) (hr : Room k X.A) (hg : Gl X x) (hm : X.mg x = some (.ref f))
    (hk : PySem.W.keepIn X.K (.ref f) = true) (hb : Binds X.K fd ps []) (ha : PA X (e :: es) t) (hdb : (x == ("__debug__" : Str)) = false := by decide) (he : starEach (e :: es) X.env = (false, eval e X.env) :: starEach es X.env := by rfl) (hpl : (backTo pos (starEach es X.env)).any (·.1) = false := by rfl) :
    PE X (.Call (.Name x p) (e :: es) [] pos) (tCall sp [] E0 t) := by
  refine ⟨fun pins s σ H Q I h => wpAny_Call_Name_kw (ld_glob I hg hm (PySem.W.callWith_K (h₀ := X.base) I.ok.mod.kin hk (thn (ha.run pos pins s σ H _ I h) fun us s1 got => ?_) he hpl) hdb)⟩
  obtain ⟨vs, H1, J, rv, q⟩ := got
  have q : sp (vs ++ []) H1 Q E0 := q
  rw [List.append_nil] at q
  have bd := hb s1 us J.kIn (by
    rw [List.append_nil, ← rv.length]
    exact F.len _ _ _ _ q)
  rw [List.append_nil] at bd
  refine ⟨J.kIn, wpAny_call (codeAny_mono (F.run X.A hgd X.stack s1 H1 ⟨us, []⟩ us vs Q hr J.env0 bd rv q) fun r s2 hc => ?_)⟩
  match r, hc with
  | .ok (.ret _), hc => exact J.after hc
  | .ok .next, hc => exact hc.elim
  | .ok .brk, hc => exact hc.elim
  | .ok .cont, hc => exact hc.elim
  | .error _, hc => exact hc.elim
end Ha

/-! The head for a law whose promise is kept where no guard stands. -/
namespace Ha
open PySem PySem.Spec PyProof.Rows L2
/-- tracked: the script alone, and it is left as it is -/
def Lone (H : Hp) (a : Addr) : Prop := ∀ b u, H b = some u → b = a ∧ ∃ o xs, u = .frz o (.lst xs)
section
variable {P : Program} {w : World} {K : PySem.W.Frag} {mg mb : Str → Option Value} {k : Nat} {fa a : Addr} {fd : FuncData} {x : Str} {sp : Sp} {s1 : Shared} {vs : List Value} {ns : List Int}
/-- what the abstract heap hides is the script at most -/
theorem lone_free {H : Hp} (L : Lone H a) {b : Addr} {o : Obj} (e : s1.heap.get? b = some o) (h : b = a → H a = none) : H b = none := by
  cases q : H b with
  | none => rfl
  | some u =>
    have eb := (L b u q).1
    rw [eb, h eb] at q
    cases q
/-- the call, seen from such an abstract heap -/
theorem go_core (KX : K.In s1.heap) (hns : s1.heap.Ns mainGlobals mg) (hb : s1.heap.Ns builtinsNs mb) (hbb : ∀ x : Str, x ≠ "__name__" → mb x = bootBuiltins x) (hlim : s1.heap.NoLimit) (hg : s1.gens = #[])
    (ha : s1.heap.get? a = some { cls := .type "list", data := .seq vs.toArray }) (hr : Room k callerA)
    (F : ∀ base : Heap, K.In base → base.Ns mainGlobals mg → FnG P w K mg base k fa fd [x] sp) (hbind : ∀ (s : Shared) (u : Value), BindsTo s fd ⟨[u], []⟩ [(x, u)])
    {H : Hp} (L : Lone H a) (hok : HOk P w H s1.heap) (hK : H a ≠ none → K.lookup a = none) (h : sp [.ref a] H (fun v _ => v = .bl true) E0) :
    codeAny (model P w) callerA (.call (.ref fa) ⟨[.ref a], []⟩) (fun r s' => r = .ok (.ret (.bool true)) ∧ OldK s1.heap s'.heap ∧ s'.os = s1.os ∧ AllBare s'.gens) s1 := by
  have ns2 : ∀ {b : Addr} {m : Str → Option Value}, s1.heap.Ns b m → (hidT s1.heap H).Ns b m := by
    rintro b m ⟨o, es, ep, e, d, r⟩
    refine ⟨o, es, ep, hidT_get e (lone_free L e fun eb => ?_), d, r⟩
    rw [eb, ha] at e
    cases e
    cases d
  have in2 : K.In (hidT s1.heap H) := fun b o e => hidT_get (KX b o e) (lone_free L (KX b o e) fun eb => by
    cases q : H a with
    | none => rfl
    | some u =>
      rw [eb, hK (by rw [q]; exact fun z => by cases z)] at e
      cases e)
  obtain ⟨mc, l1, l2⟩ := hlim
  have e0 : Env0 P w K mg (hidT s1.heap H) callerA [] s1 H :=
    { frames := rfl
      mod := ⟨in2, ns2 hns, ⟨mb, ns2 hb, hbb⟩, ⟨mc, ns2 l1, l2⟩⟩
      bs := fun _ _ e => of_hidT e
      bsz := Nat.le_of_eq (hidT_size _ _)
      funs := trivial
      frf := fun _ z => (List.not_mem_nil z).elim
      hok := hok
      bare := .of_eq hg }
  refine codeAny_mono ((F _ in2 (ns2 hns)).run callerA rfl [] s1 H ⟨[.ref a], []⟩ [.ref a] [.ref a] _ hr e0 (hbind s1 (.ref a)) (.cons rfl .nil) h) fun r s2 hc => ?_
  match r, hc with
  | .error _, hc => exact hc.elim
  | .ok .next, hc => exact hc.elim
  | .ok .brk, hc => exact hc.elim
  | .ok .cont, hc => exact hc.elim
  | .ok (.ret u), ⟨v, H2, os, bare, un, hok2, rel, q⟩ =>
    have q : v = .bl true := q
    cases q
    cases (show u = Value.bool true from rel)
    refine ⟨rfl, OldK.of_keep fun b o e => ?_, os, bare⟩
    cases hH : H b with
    | none => exact un.keep b o e hH (fun z => (List.not_mem_nil z).elim) (by simp)
    | some t =>
      obtain ⟨_, ob, xs, rfl⟩ := L b t hH
      have g1 := (hok b _ hH).1
      have g2 := (hok2 b _ (un.frzs b ob _ hH)).1
      rw [e] at g1
      cases g1
      exact g2
theorem go_law (KX : K.In s1.heap) (hns : s1.heap.Ns mainGlobals mg) (hb : s1.heap.Ns builtinsNs mb) (hbb : ∀ x : Str, x ≠ "__name__" → mb x = bootBuiltins x) (hlim : s1.heap.NoLimit) (hg : s1.gens = #[])
    (ha : s1.heap.get? a = some { cls := .type "list", data := .seq vs.toArray }) (hi : IntsAre vs ns) (hl : ns.length ≤ sizeLine) (hr : Room k callerA)
    (F : ∀ base : Heap, K.In base → base.Ns mainGlobals mg → FnG P w K mg base k fa fd [x] sp) (hbind : ∀ (s : Shared) (u : Value), BindsTo s fd ⟨[u], []⟩ [(x, u)])
    (hsp : ∀ H : Hp, SqL K H a (ns.map V.int) → sp [.ref a] H (fun v _ => v = .bl true) E0) :
    codeAny (model P w) callerA (.call (.ref fa) ⟨[.ref a], []⟩) (fun r s' => r = .ok (.ret (.bool true)) ∧ OldK s1.heap s'.heap ∧ s'.os = s1.os ∧ AllBare s'.gens) s1 := by
  by_cases hk : K.lookup a = none
  · let H : Hp := fun b => if b = a then some (.frz { cls := .type "list", data := .seq vs.toArray } (.lst (ns.map V.int))) else none
    have at' : H a = some (.frz { cls := .type "list", data := .seq vs.toArray } (.lst (ns.map V.int))) := if_pos rfl
    have L : Lone H a := fun b u e => by
      by_cases eb : b = a
      · rw [eb, at'] at e
        exact ⟨eb, { cls := .type "list", data := .seq vs.toArray }, ns.map V.int, (Option.some.inj e).symm⟩
      · rw [show H b = none from if_neg eb] at e
        cases e
    refine go_core KX hns hb hbb hlim hg ha hr F hbind L (fun b u e => ?_) (fun _ => hk) (hsp H (.inl (.inr ⟨_, at'⟩)))
    have eb := (L b u e).1
    subst eb
    rw [at'] at e
    cases e
    exact ⟨ha, (by rw [List.length_map]; exact hl), vs, _, vals_ints hi, ha⟩
  · obtain ⟨o, ho⟩ := Option.ne_none_iff_exists'.mp hk
    have e := KX a o ho
    rw [ha] at e
    cases e
    have sq : SqL K (fun _ => none) a (ns.map V.int) := .inr ⟨_, vs.toArray, _, ho, rfl, rfl, rfl, (by rw [List.size_toArray, hi.length]; exact hl), (by simpa using vals_ints hi)⟩
    exact go_core KX hns hb hbb hlim hg ha hr F hbind (H := fun _ => none) (fun b u z => by have z' : (none : Option HO) = some u := z; cases z') (fun b u z => by have z' : (none : Option HO) = some u := z; cases z') (fun z => absurd rfl z) (hsp _ sq)
end
/-- the goal that k_head leaves -/
theorem walkG {l : PySem.W.OpenLaw} {n k : Nat} {q : Program} {loose : List Str} {XP : (Str → Option Value) → Heap → Prop} {YP : World → Heap → Prop} {d : DefRec} {K : Params → PySem.W.Frag} {sp : PySem.W.Frag → Sp} {x : Str}
    (hn : l.most = some n) (hn2 : n ≤ sizeLine) (hdf : d.params.defaults = []) (hr : Room k callerA) (hY : ∀ (w : World) (h : Heap), YP w h → (K w.params).In h)
    (F : ∀ (w : World) (mg : Str → Option Value) (fa : Addr) (h : Heap), (K w.params).In h → h.Ns mainGlobals mg → mg d.name = some (.ref fa) →
      ∃ fd : FuncData, (∀ (s : Shared) (u : Value), BindsTo s fd ⟨[u], []⟩ [(x, u)]) ∧ ∀ base : Heap, (K w.params).In base → base.Ns mainGlobals mg → FnG l.prog w (K w.params) mg base k fa fd [x] (sp (K w.params)))
    (hsp : ∀ (K : PySem.W.Frag) (H : Hp) (a : Addr) (ns : List Int), ns.length ≤ n → SqL K H a (ns.map V.int) → sp K [.ref a] H (fun v _ => v = .bl true) E0) :
    PySem.W.WalkO q loose XP YP l.row.toRowW d [] (fun f vs => PySem.call f vs) := by
  refine Att.attach_call hn hdf fun w s0 s1 mg mb fa o pm cd doc a vs ns G Y ho hd hcd hmg hobj hints hlen hg => ?_
  obtain ⟨fd, hb, hF⟩ := F w mg fa _ (hY w _ Y) G.T.g hmg
  exact go_law (hY w _ Y) G.T.g G.T.b G.T.builtins G.T.nolimit hg hobj hints (Nat.le_trans hlen hn2) hr hF hb fun H hS => hsp _ H a ns hlen hS
end Ha

/-! What is told of a guest, as data. -/
namespace Ha
open PySem PySem.Spec PyProof.Rows L2
/-! ### data stands still -/
theorem sqT_same {K : PySem.W.Frag} {H H' : Hp} {a : Addr} {xs : List V} (s : Same H H') (h : SqT K H a xs) : SqT K H' a xs := by
  rcases h with (e | ⟨z, e⟩) | e
  · exact .inl (.inl (s _ _ e))
  · exact .inl (.inr ⟨z, s _ _ e⟩)
  · exact .inr e
mutual
theorem Dp.same {K : PySem.W.Frag} {H H' : Hp} (s : Same H H') : ∀ {d : PyData} {v : V}, Dp K H v d → Dp K H' v d
  | _, _, .non => .non
  | _, _, .bl b => .bl b
  | _, _, .int i => .int i
  | _, _, .str x => .str x
  | _, _, .lst h q => .lst (Same.seq s h) (DpAll.same s q)
  | _, _, .tup h q => .tup (sqT_same s h) (DpAll.same s q)
theorem DpAll.same {K : PySem.W.Frag} {H H' : Hp} (s : Same H H') : ∀ {ds : List PyData} {vs : List V}, DpAll K H vs ds → DpAll K H' vs ds
  | _, _, .nil => .nil
  | _, _, .cons h q => .cons (Dp.same s h) (DpAll.same s q)
end
theorem dpAll_snoc {K : PySem.W.Frag} {H : Hp} {v : V} {d : PyData} (h : Dp K H v d) : ∀ {vs : List V} {ds : List PyData}, DpAll K H vs ds → DpAll K H (vs ++ [v]) (ds ++ [d])
  | _, _, .nil => .cons h .nil
  | _, _, .cons r q => .cons r (dpAll_snoc h q)
theorem dpAll_of {α : Type} {K : PySem.W.Frag} {H : Hp} {R : α → V → Prop} {f : α → PyData} (h : ∀ x v, R x v → Dp K H v (f x)) : ∀ {l : List α} {xs : List V}, Paired R l xs → DpAll K H xs (l.map f)
  | _, _, .nil => .nil
  | _, _, .cons r p => .cons (h _ _ r) (dpAll_of h p)
/-! ### the things told -/
def pD (p : Option Str × Option Str) : PyData := .tuple [oD p.1, oD p.2]
def sD (l : List Str) : PyData := .list (l.map PyData.str)
def lD (q : Str × List Str) : PyData := .tuple [.str q.1, tD q.2]
def lettersD (l : List (Str × List Str)) : PyData := .list (l.map lD)
def factsD (g : G) : PyData := .list [oD g.mark, sD (srt g.keys), .bool g.wished, .bool g.opened, oD g.source, .list (g.past.map pD), sD (srt g.seats), sD (srt g.waits), sD (srt g.debts)]
theorem dp_past {K : PySem.W.Frag} {H : Hp} {p : Option Str × Option Str} {v : V} (h : pastR H p v) : Dp K H v (pD p) := by
  obtain ⟨a, rfl, e⟩ := h
  exact .tup (SqT.of e) (.cons (dp_oV _) (.cons (dp_oV _) .nil))
theorem dp_go {K : PySem.W.Frag} {H : Hp} {q : Str × List Str} {v : V} (h : goR K H q v) : Dp K H v (lD q) := by
  obtain ⟨a, b, rfl, e, t⟩ := h
  exact .tup (SqT.of e) (.cons (.str _) (.cons (dp_tup t.sq) .nil))
theorem dp_letters {K : PySem.W.Frag} {H : Hp} {a : Addr} {l : List (Str × List Str)} (h : LstR (goR K) H a l) : Dp K H (.ref a) (lettersD l) := by
  obtain ⟨xs, e, p⟩ := h
  exact .lst (SqL.of e) (dpAll_of (fun _ _ q => dp_go q) p)
theorem dp_strs {K : PySem.W.Frag} {H : Hp} {a : Addr} {l : List Str} (h : H a = some (.lst (l.map V.str))) : Dp K H (.ref a) (sD l) := .lst (SqL.of h) (dpAll_strs l)
/-! ### that they can be laid -/
theorem canAll {α : Type} {f : α → PyData} : ∀ {l : List α}, (∀ x ∈ l, (f x).canLay0 = true) → PyData.canLayAll0 (l.map f) = true
  | [], _ => by simp [PyData.canLayAll0]
  | x :: r, h => by
    rw [List.map_cons]
    simp only [PyData.canLayAll0]
    rw [h x List.mem_cons_self, canAll fun y hy => h y (List.mem_cons_of_mem _ hy)]
    rfl
theorem depthAll_le {α : Type} {f : α → PyData} {n : Nat} : ∀ {l : List α}, (∀ x ∈ l, (f x).depth ≤ n) → PyData.depthAll (l.map f) ≤ n
  | [], _ => by simp [PyData.depthAll]
  | x :: r, h => by
    rw [List.map_cons]
    simp only [PyData.depthAll]
    exact Nat.max_le.mpr ⟨h x List.mem_cons_self, depthAll_le fun y hy => h y (List.mem_cons_of_mem _ hy)⟩
theorem oD_can {o : Option Str} (h : ∀ x, o = some x → PyData.canLay0 (.str x) = true) : (oD o).canLay0 = true := by
  cases o with
  | none => simp [oD, PyData.canLay0]
  | some x => exact h x rfl
theorem oD_depth (o : Option Str) : (oD o).depth = 0 := by
  cases o <;> simp [oD, PyData.depth]
theorem sD_can {l : List Str} (h : ∀ x ∈ l, Nm x) : (sD l).canLay0 = true := by
  unfold sD
  simp only [PyData.canLay0]
  exact canAll fun x hx => nm_ok (h x hx)
theorem sD_depth (l : List Str) : (sD l).depth ≤ 1 := by
  unfold sD
  simp only [PyData.depth]
  rw [depthAll_names]
  omega
theorem word_ok {x : Str} (h : x = wIn ∨ x = wOut ∨ x = wClear ∨ x = wBarred) : PyData.canLay0 (.str x) = true := by
  rcases h with rfl | rfl | rfl | rfl <;> decide +kernel
theorem goodL_can {l : List Str} (h : goodL l) : (tD l).canLay0 = true ∧ (tD l).depth ≤ 1 := by
  rcases h with rfl | rfl | rfl | rfl | rfl <;> exact ⟨by decide +kernel, by decide +kernel⟩
theorem lD_can {q : Str × List Str} (h1 : Nm q.1) (h2 : goodL q.2) : (lD q).canLay0 = true ∧ (lD q).depth ≤ 2 := by
  obtain ⟨c1, c2⟩ := goodL_can h2
  unfold lD
  simp only [PyData.canLay0, PyData.canLayAll0, PyData.depth, PyData.depthAll]
  refine ⟨?_, by omega⟩
  rw [c1]
  have z := nm_ok h1
  simp only [PyData.canLay0] at z
  rw [z]
  rfl
theorem pD_can {g : G} (b : Base g) {p : Option Str × Option Str} (hp : p ∈ g.past) : (pD p).canLay0 = true ∧ (pD p).depth ≤ 1 := by
  obtain ⟨h1, h2⟩ := b.nP p hp
  have c1 : (oD p.1).canLay0 = true := oD_can fun x e => word_ok ((h1 x e).elim .inl fun z => .inr (.inl z))
  have c2 : (oD p.2).canLay0 = true := oD_can fun x e => nm_ok (h2 x e)
  unfold pD
  simp only [PyData.canLay0, PyData.canLayAll0, PyData.depth, PyData.depthAll]
  rw [c1, c2, oD_depth, oD_depth]
  exact ⟨rfl, by decide⟩
theorem letters_shaped {l : List (Str × List Str)} (h : ∀ q ∈ l, Nm q.1 ∧ goodL q.2) : SeqAt.shaped (lettersD l) = true ∧ (lettersD l).canLay0 = true := by
  have c : (lettersD l).canLay0 = true := by
    unfold lettersD
    simp only [PyData.canLay0]
    exact canAll fun q hq => (lD_can (h q hq).1 (h q hq).2).1
  refine ⟨shaped_of c ?_, c⟩
  unfold lettersD
  simp only [PyData.depth]
  have := depthAll_le (n := 2) fun q hq => (lD_can (h q hq).1 (h q hq).2).2
  omega
theorem facts_shaped {g : G} (b : Base g) : SeqAt.shaped (factsD g) = true ∧ (factsD g).canLay0 = true := by
  have c1 : (oD g.mark).canLay0 = true := oD_can fun x e => word_ok ((b.mw x e).elim .inl fun z => .inr (.inl z))
  have c2 : (sD (srt g.keys)).canLay0 = true := sD_can fun x hx => b.nN x (srt_mem.mp hx)
  have c3 : (oD g.source).canLay0 = true := oD_can fun x e => nm_ok (b.nC x e)
  have c4 : PyData.canLayAll0 (g.past.map pD) = true := canAll fun p hp => (pD_can b hp).1
  have c5 : (sD (srt g.seats)).canLay0 = true := sD_can fun x hx => b.nS x (srt_mem.mp hx)
  have c6 : (sD (srt g.waits)).canLay0 = true := sD_can fun x hx => b.nW x (srt_mem.mp hx)
  have c7 : (sD (srt g.debts)).canLay0 = true := sD_can fun x hx => b.nD x (srt_mem.mp hx)
  have c : (factsD g).canLay0 = true := by
    unfold factsD
    simp only [PyData.canLay0, PyData.canLayAll0]
    rw [c1, c2, c3, c4, c5, c6, c7]
    rfl
  refine ⟨shaped_of c ?_, c⟩
  unfold factsD
  simp only [PyData.depth, PyData.depthAll]
  have d1 := depthAll_le (n := 1) fun p hp => (pD_can b hp).2
  have d2 := sD_depth (srt g.keys)
  have d3 := sD_depth (srt g.seats)
  have d4 := sD_depth (srt g.waits)
  have d5 := sD_depth (srt g.debts)
  rw [oD_depth, oD_depth]
  omega
theorem eqv_self {d : PyData} (h : d.canLay0 = true) : PyData.eqv d d = true := SeqAt.eqv_refl d h
end Ha

/-! _law_alike. -/
namespace Ha
open PySem PySem.Spec PyProof.Rows L2
/-- over a locked dict's keys -/
theorem for_keys {d : Addr} {od : Obj} {kvs : List (Key × V)} {g : TG} {tb : TS} {D : Ends} {σ : L2.St} {H : Hp} (Pv : Nat → L2.St → Hp → Prop) (h0 : Pv 0 σ H) (hl : ∀ i σ H, Pv i σ H → H d = some (.frz od (.dK kvs)))
    (hs : ∀ i k v σ H, kvs[i]? = some (k, v) → Pv i σ H → g (kV k) σ H fun σ2 H2 => tb { D with nx := Pv (i + 1), ct := Pv (i + 1), bk := D.nx } σ2 H2) (hd : ∀ σ H, Pv kvs.length σ H → D.nx σ H) :
    ∃ W : Nat → Nat → L2.St → Hp → Prop, (∃ m, W 0 m σ H) ∧ ∀ i m σ H, W i m σ H →
      ((Itk d od kvs).stop i H ∧ D.nx σ H) ∨ ((Itk d od kvs).go i H ∧ ∃ N : L2.St → Hp → Prop, (∀ σ' H', N σ' H' → ∃ m', m' < m ∧ W (i + 1) m' σ' H') ∧ ∀ v H', (Itk d od kvs).yld i H v H' → g v σ H' fun σ2 H2 => tb { D with nx := N, ct := N, bk := D.nx } σ2 H2) := by
  refine ⟨fun i m σ H => m = kvs.length - i ∧ i ≤ kvs.length ∧ Pv i σ H, ⟨kvs.length, by simp, Nat.zero_le _, h0⟩, ?_⟩
  rintro i m σ H ⟨rfl, hi, p⟩
  by_cases hlt : i < kvs.length
  · refine .inr ⟨⟨hl i σ H p, hlt⟩, Pv (i + 1), fun σ' H' p' => ⟨kvs.length - (i + 1), by omega, rfl, hlt, p'⟩, fun v H' y => ?_⟩
    obtain ⟨rfl, k, x, hk, rfl⟩ := y
    exact hs i k x σ _ hk p
  · have e : i = kvs.length := by omega
    subst e
    exact .inl ⟨⟨hl _ σ H p, Nat.le_refl _⟩, hd σ H p⟩
theorem dpAll_app {K : PySem.W.Frag} {H : Hp} : ∀ {vs : List V} {ds : List PyData} {us : List V} {es : List PyData}, DpAll K H vs ds → DpAll K H us es → DpAll K H (vs ++ us) (ds ++ es)
  | _, _, _, _, .nil, q => q
  | _, _, _, _, .cons r p, q => .cons r (dpAll_app p q)
theorem get_of {H : Hp} {b : GA} {g : G} (ob : H b.p = some (.dK (mK b g))) {k : Str} {v : V} (e : valV (mK b g) (Sum.inr k : Key) = some v) : DGet H b.p (.str k) (some v) := by
  have h := DGet.k (k := Sum.inr k) ob
  rw [e] at h
  exact h
theorem near_has {h : Str} {t : Str × Nat} : ∀ {l : List (Str × Option (Str × Nat))}, nearAt l h = some t → ∃ p ∈ l, p.2 = some t
  | [], e => nomatch e
  | (k, u) :: r, e => by
    have e' : (if k = h then u else nearAt r h) = some t := e
    split at e'
    · exact ⟨_, List.mem_cons_self, e'⟩
    · obtain ⟨p, hp, q⟩ := near_has e'
      exact ⟨p, List.mem_cons_of_mem _ hp, q⟩
theorem heard_shown {g : G} {h : Str} (b : Base g) : (PyData.list [oD (heardV g h), .bool (aheadB g h)]).showable = true ∧ PyData.layable0 (.list [oD (heardV g h), .bool (aheadB g h)]) = true ∧ (PyData.list [oD (heardV g h), .bool (aheadB g h)]).intsShort 13 = true := by
  have hh : heardV g h = none ∨ heardV g h = some wClear ∨ heardV g h = some wBarred := by
    unfold heardV
    cases e : nearAt g.near h with
    | none => exact .inl rfl
    | some t =>
      obtain ⟨w, n⟩ := t
      obtain ⟨p, hp, ep⟩ := near_has e
      rcases (b.num p hp w n ep).2 with rfl | rfl
      · exact .inr (.inl rfl)
      · exact .inr (.inr rfl)
  rcases hh with e | e | e <;> rw [e] <;> cases aheadB g h <;> exact ⟨by decide +kernel, by decide +kernel, by decide +kernel⟩
/-! what a guest tells does not hang on the letters that go -/
def spLg (K : PySem.W.Frag) (C : Addr) (f : G → List Str) : Sp := fun vs H Q _ => ∃ (a : GA) (g : G), vs = [.ref a.p] ∧ GuestAt K C H a (gone g) ∧ ∀ p, H p = none → Q (.ref p) (upd H p (.lst ((f g).map V.str)))
theorem spLg_of {K : PySem.W.Frag} {C : Addr} {f : G → List Str} (e : ∀ g, f (gone g) = f g) {vs : List V} {H : Hp} {Q : VK} {E : XK} (h : spLg K C f vs H Q E) : spL K C f vs H Q E := by
  obtain ⟨a, g, ev, G, q⟩ := h
  exact ⟨a, gone g, ev, G, fun p hp => by rw [e]; exact q p hp⟩
def spVg (K : PySem.W.Frag) (C : Addr) (f : G → V) : Sp := fun vs H Q _ => ∃ (a : GA) (g : G), vs = [.ref a.p] ∧ GuestAt K C H a (gone g) ∧ Q (f g) H
theorem spVg_of {K : PySem.W.Frag} {C : Addr} {f : G → V} (e : ∀ g, f (gone g) = f g) {vs : List V} {H : Hp} {Q : VK} {E : XK} (h : spVg K C f vs H Q E) : spV K C f vs H Q E := by
  obtain ⟨a, g, ev, G, q⟩ := h
  exact ⟨a, gone g, ev, G, by rw [e]; exact q⟩
def spTurnsg (K : PySem.W.Frag) (C : Addr) : Sp := fun vs H Q _ => ∃ (a : GA) (g : G), vs = [.ref a.p] ∧ GuestAt K C H a (gone g) ∧ ∀ p xs, H p = none → H a.past = some (.lst xs) → Paired (pastR H) g.past xs → Q (.ref p) (upd H p (.lst xs))
theorem spTurnsg_of {K : PySem.W.Frag} {C : Addr} {vs : List V} {H : Hp} {Q : VK} {E : XK} (h : spTurnsg K C vs H Q E) : spTurns K C vs H Q E := by
  obtain ⟨a, g, ev, G, q⟩ := h
  exact ⟨a, gone g, ev, G, q⟩
def spHeardOfg (K : PySem.W.Frag) (C : Addr) : Sp := fun vs H Q _ => ∃ (a : GA) (g : G) (h : Str), vs = [.ref a.p, .str h] ∧ GuestAt K C H a (gone g) ∧ Nm h ∧ h ∈ g.keys ∧ ∀ H', Same H H' → Q (oV (heardV g h)) H'
theorem spHeardOfg_of {K : PySem.W.Frag} {C : Addr} {vs : List V} {H : Hp} {Q : VK} {E : XK} (h : spHeardOfg K C vs H Q E) : spHeardOf K C vs H Q E := by
  obtain ⟨a, g, x, ev, G, n, m, q⟩ := h
  exact ⟨a, gone g, x, ev, G, n, m, q⟩
def spIsAheadg (K : PySem.W.Frag) (C : Addr) : Sp := fun vs H Q _ => ∃ (a : GA) (g : G) (h : Str), vs = [.ref a.p, .str h] ∧ GuestAt K C H a (gone g) ∧ Nm h ∧ h ∈ g.keys ∧ ∀ H', Same H H' → Q (.bl (aheadB g h)) H'
theorem spIsAheadg_of {K : PySem.W.Frag} {C : Addr} {vs : List V} {H : Hp} {Q : VK} {E : XK} (h : spIsAheadg K C vs H Q E) : spIsAhead K C vs H Q E := by
  obtain ⟨a, g, x, ev, G, n, m, q⟩ := h
  exact ⟨a, gone g, x, ev, G, n, m, q⟩
def spAlike (K : PySem.W.Frag) (C : Addr) : Sp := fun vs H Q _ => ∃ (a b : GA) (g : G), vs = [.ref a.p, .ref b.p] ∧ GuestAt K C H a (gone g) ∧ MineAt K H b g ∧ b.near ∉ a.ft ∧ Base g ∧ Fit 6000 60000 60000 g ∧ ∀ H', Same H H' → Q (.bl true) H'
section
variable {P : Program} {w : World} {K : PySem.W.Frag} {mg : Str → Option Value} {base : Heap}
theorem fn_alike (T : Tx K mg) : FnG P w K mg base 4 T.d_l_alike.f T.d_l_alike.fd ["_law_guest", "_law_mine"] (spAlike K T.C) := by
  have GWd : FnOk P w K mg base CX0 1 T.d_word.f T.d_word.fd ["self"] (spVg K T.C fun g => oV g.mark) := (fn_word T).imp fun _ _ _ _ h => spVg_of (fun _ => rfl) h
  have GHs : FnOk P w K mg base CX0 1 T.d_houses.f T.d_houses.fd ["self"] (spLg K T.C fun g => srt g.keys) := (fn_houses T).imp fun _ _ _ _ h => spLg_of (fun _ => rfl) h
  have GWs : FnOk P w K mg base CX0 1 T.d_wishes.f T.d_wishes.fd ["self"] (spVg K T.C fun g => .bl g.wished) := (fn_wishes T).imp fun _ _ _ _ h => spVg_of (fun _ => rfl) h
  have GIo : FnOk P w K mg base CX0 1 T.d_is_open.f T.d_is_open.fd ["self"] (spVg K T.C fun g => .bl g.opened) := (fn_is_open T).imp fun _ _ _ _ h => spVg_of (fun _ => rfl) h
  have GCa : FnOk P w K mg base CX0 1 T.d_cause.f T.d_cause.fd ["self"] (spVg K T.C fun g => oV g.source) := (fn_cause T).imp fun _ _ _ _ h => spVg_of (fun _ => rfl) h
  have GTu : FnOk P w K mg base CX0 1 T.d_turns.f T.d_turns.fd ["self"] (spTurnsg K T.C) := (fn_turns T).imp fun _ _ _ _ h => spTurnsg_of h
  have GAw : FnOk P w K mg base CX0 1 T.d_awaited.f T.d_awaited.fd ["self"] (spLg K T.C fun g => srt g.waits) := (fn_awaited T).imp fun _ _ _ _ h => spLg_of (fun _ => rfl) h
  have GCh : FnOk P w K mg base CX0 1 T.d_chairs.f T.d_chairs.fd ["self"] (spLg K T.C fun g => srt g.seats) := (fn_chairs T).imp fun _ _ _ _ h => spLg_of (fun _ => rfl) h
  have GOw : FnOk P w K mg base CX0 1 T.d_owed.f T.d_owed.fd ["self"] (spLg K T.C fun g => srt g.debts) := (fn_owed T).imp fun _ _ _ _ h => spLg_of (fun _ => rfl) h
  have GHo : FnOk P w K mg base CX0 3 T.d_heard_of.f T.d_heard_of.fd ["self", "house"] (spHeardOfg K T.C) := (fn_heardOf T).imp fun _ _ _ _ h => spHeardOfg_of h
  have GIa : FnOk P w K mg base CX0 3 T.d_is_ahead.f T.d_is_ahead.fd ["self", "house"] (spIsAheadg K T.C) := (fn_isAhead T).imp fun _ _ _ _ h => spIsAheadg_of h
  refine T.d_l_alike.okG sc_l_alike (fun vs H Q E h => ?_) (fun cdv A outer s H vs Q hgd hr h => ?_)
  · obtain ⟨a, b, g, rfl, _⟩ := h
    rfl
  · obtain ⟨a, b, g, rfl, G, M, hnb, bs, hl, k⟩ := h
    have nd := sc_l_alike.nd
    have hu := hu_of hr
    have hr1 : Room 1 _ := hr.mono (by decide)
    have hu66 : (A.deeper (envOfC "_law_alike" (defScope s_l_alike) s.heap.objs.size T.d_l_alike.f cdv)).units + 66 < cLine := by have := hr.un; omega
    have hg2 : (A.deeper (envOfC "_law_alike" (defScope s_l_alike) s.heap.objs.size T.d_l_alike.f cdv)).guards = some [] := hgd
    refine ⟨_, pss_cons (ps_set (i := 2) nd rfl (.inl rfl) (pe_lst (pa_cons (pe_meth0 (pv 0) T.cl T.m_word GWd hr1 T.d_word.b .nil pass0) (pa_cons (pe_meth0 (pv 0) T.cl T.m_houses GHs hr1 T.d_houses.b .nil pass0) (pa_cons (pe_meth0 (pv 0) T.cl T.m_wishes GWs hr1 T.d_wishes.b .nil pass0)
          (pa_cons (pe_meth0 (pv 0) T.cl T.m_is_open GIo hr1 T.d_is_open.b .nil pass0) (pa_cons (pe_meth0 (pv 0) T.cl T.m_cause GCa hr1 T.d_cause.b .nil pass0) (pa_cons (pe_meth0 (pv 0) T.cl T.m_turns GTu hr1 T.d_turns.b .nil pass0) pa_nil))))))))
      (pss_cons (ps_set (i := 2) nd rfl (.inl rfl) (pe_op op_cat (pv 2) (pe_lst (pa_cons (pe_meth0 (pv 0) T.cl T.m_chairs GCh hr1 T.d_chairs.b .nil pass0) (pa_cons (pe_meth0 (pv 0) T.cl T.m_awaited GAw hr1 T.d_awaited.b .nil pass0) (pa_cons (pe_meth0 (pv 0) T.cl T.m_owed GOw hr1 T.d_owed.b .nil pass0) pa_nil))))))
      (pss_cons (ps_set (i := 3) nd rfl (.inl rfl) (pe_lst (pa_cons (pe_dget hu (pv 1) pe_str (fun _ _ => rfl)) (pa_cons (pe_callB (cr_sortedDA rfl) (by rfl) T.b_sorted (by decide +kernel) (pa_cons (pe_dget hu (pv 1) pe_str (fun _ _ => rfl)) pa_nil)) (pa_cons (pe_dget hu (pv 1) pe_str (fun _ _ => rfl)) (pa_cons (pe_dget hu (pv 1) pe_str (fun _ _ => rfl))
          (pa_cons (pe_dget hu (pv 1) pe_str (fun _ _ => rfl)) (pa_cons (pe_dget hu (pv 1) pe_str (fun _ _ => rfl)) pa_nil))))))))
      (pss_cons (ps_set (i := 3) nd rfl (.inl rfl) (pe_op op_cat (pv 3) (pe_lc (own := [("_law_row", 7)]) (g := gName 7) (tt := tYes) rfl nd (pi_list (pe_lst (pa_cons pe_str (pa_cons pe_str (pa_cons pe_str pa_nil))))) (blkOk_by (own := [("_law_row", 7)]) (N := n_l_alike) (sc := defScope s_l_alike) (by decide +kernel))
          (fun _ _ _ _ _ => pg_name (i := 7) nd rfl (Or.inl rfl)) (fun _ _ _ _ _ => pts_nil) (te := tCB (rSortedSA K) (tCons (tDGet (tVar 1) (tVar 7)) tNil)) (fun _ _ _ _ _ => by exact (pe_callB (id := "sorted") cr_sortedSA (by rfl) T.b_sorted (by decide +kernel) (pa_cons (pe_dget hu (pv 1) (pv 7) (fun _ _ => rfl)) pa_nil))))))
      (pss_cons (ps_if (pt_cmpR (op_neD hr.units) (pv 2) (pv 3) (nomark _)) (pss_one (ps_ret pe_bl)) pss_nil)
      (pss_cons (ps_for PassesOwn.never rfl (pi_list (pe_lst (pa_cons (pe_meth0 (pv 0) T.cl T.m_houses GHs hr1 T.d_houses.b .nil pass0) (pa_cons (pe_meth0 (pv 0) T.cl T.m_turns GTu hr1 T.d_turns.b .nil pass0) (pa_cons (pe_meth0 (pv 0) T.cl T.m_chairs GCh hr1 T.d_chairs.b .nil pass0)
          (pa_cons (pe_meth0 (pv 0) T.cl T.m_awaited GAw hr1 T.d_awaited.b .nil pass0) (pa_cons (pe_meth0 (pv 0) T.cl T.m_owed GOw hr1 T.d_owed.b .nil pass0) pa_nil))))))) (pg_name (i := 4) nd rfl (.inl rfl))
        (pss_cons (ps_expr (pe_bm PySem.F.plainAttrs_list PySem.F.slot_list_append PySem.F.type_list_append mt_append (pv 4) (pa_cons pe_str pa_nil)))
        (pss_one (ps_expr (pe_bm0 PySem.F.plainAttrs_list PySem.F.slot_list_reverse PySem.F.type_list_reverse mt_reverse (pv 4))))))
      (pss_cons (ps_lock (ps_for PassesOwn.never rfl (pi_keys (pe_dget hu (pv 1) pe_str (fun _ _ => rfl))) (pg_name (i := 5) nd rfl (.inl rfl))
        (pss_cons (ps_set (i := 6) nd rfl (.inl rfl) (pe_dget hu (pe_dget hu (pv 1) pe_str (fun _ _ => rfl)) (pv 5) (fun _ _ => rfl)))
        (pss_cons (ps_set (i := 3) nd rfl (.inl rfl) (pe_lst (pa_cons pe_non (pa_cons pe_bl pa_nil))))
        (pss_cons (ps_if (pt_cmp (pc_notN (pv 6))) (pss_one (ps_set (i := 3) nd rfl (.inl rfl) (pe_lst (pa_cons (pe_ix ix_tup (pv 6) pe_int (fun _ _ => rfl)) (pa_cons (pe_and (pe_cmp (pc_notN (pe_dget hu (pv 1) pe_str (fun _ _ => rfl))) rfl) (pe_one (pe_cmpR op_le (pe_ix ix_tup (pv 6) pe_int (fun _ _ => rfl)) (pe_dget hu (pv 1) pe_str (fun _ _ => rfl)) (nomark _)))) pa_nil))))) pss_nil)
        (pss_one (ps_if (pt_cmpR op_ne (pe_callB (cr_repr hg2 hu66) (by rfl) T.b_repr (by decide +kernel) (pa_cons (pe_lst (pa_cons (pe_meth (pv 0) T.cl T.m_heard_of GHo hr T.d_heard_of.b .nil pass0 (pa_cons (pv 5) pa_nil)) (pa_cons (pe_meth (pv 0) T.cl T.m_is_ahead GIa hr T.d_is_ahead.b .nil pass0 (pa_cons (pv 5) pa_nil)) pa_nil))) pa_nil))
            (pe_callB (cr_repr hg2 hu66) (by rfl) T.b_repr (by decide +kernel) (pa_cons (pv 3) pa_nil)) (nomark _)) (pss_one (ps_ret pe_bl)) pss_nil)))))))
      (pss_one (ps_ret pe_bl)))))))), ?_⟩
    have M0 := MS.start M
    -- found
    refine ⟨_, rfl, a.p, a.dx, _, rfl, G.ob, rfl, a, g, rfl, G, ?_⟩
    refine ⟨_, rfl, a.p, a.dx, _, rfl, G.ob, rfl, a, g, rfl, G, fun p1 h1 => ?_⟩
    have s1 := same_new (o := .lst ((srt g.keys).map V.str)) h1
    have e1 := upd_same (H := H) (a := p1) (o := .lst ((srt g.keys).map V.str))
    generalize upd H p1 (.lst ((srt g.keys).map V.str)) = H1 at s1 e1 ⊢
    have G1 := G.same s1
    refine ⟨_, rfl, a.p, a.dx, _, rfl, G1.ob, rfl, a, g, rfl, G1, ?_⟩
    refine ⟨_, rfl, a.p, a.dx, _, rfl, G1.ob, rfl, a, g, rfl, G1, ?_⟩
    refine ⟨_, rfl, a.p, a.dx, _, rfl, G1.ob, rfl, a, g, rfl, G1, ?_⟩
    refine ⟨_, rfl, a.p, a.dx, _, rfl, G1.ob, rfl, a, g, rfl, G1, fun p2 xs h2 hx px => ?_⟩
    refine ⟨(by show 6 ≤ sizeLine; decide), fun q1 hq1 => ?_⟩
    have t3 := (same_new (o := .lst xs) h2).trans (same_new (o := .lst [oV g.mark, .ref p1, .bl g.wished, .bl g.opened, oV g.source, .ref p2]) hq1)
    have e3 : (upd (upd H1 p2 (.lst xs)) q1 (.lst [oV g.mark, .ref p1, .bl g.wished, .bl g.opened, oV g.source, .ref p2])) q1 = some (.lst [oV g.mark, .ref p1, .bl g.wished, .bl g.opened, oV g.source, .ref p2]) := upd_same
    have d3 : DpAll K (upd (upd H1 p2 (.lst xs)) q1 (.lst [oV g.mark, .ref p1, .bl g.wished, .bl g.opened, oV g.source, .ref p2])) [oV g.mark, .ref p1, .bl g.wished, .bl g.opened, oV g.source, .ref p2] [oD g.mark, sD (srt g.keys), .bool g.wished, .bool g.opened, oD g.source, .list (g.past.map pD)] :=
      .cons (dp_oV _) (.cons (dp_strs (t3 _ _ e1)) (.cons (.bl _) (.cons (.bl _) (.cons (dp_oV _) (.cons (.lst (SqL.of (same_new hq1 _ _ upd_same)) (dpAll_of (fun _ _ q => dp_past q) (Paired.mapP px fun _ _ q => q.stay fun b ys e => t3 _ _ e))) .nil)))))
    change tSeq _ _ _ _ (upd (upd H1 p2 (.lst xs)) q1 (.lst [oV g.mark, .ref p1, .bl g.wished, .bl g.opened, oV g.source, .ref p2]))
    generalize upd (upd H1 p2 (.lst xs)) q1 (.lst [oV g.mark, .ref p1, .bl g.wished, .bl g.opened, oV g.source, .ref p2]) = H3 at t3 e3 d3 ⊢
    have s3 := s1.trans t3
    have G3 := G.same s3
    refine ⟨_, rfl, ?_⟩
    refine ⟨_, rfl, a.p, a.dx, _, rfl, G3.ob, rfl, a, g, rfl, G3, fun p3 h3 => ?_⟩
    have t4 := same_new (o := .lst ((srt g.seats).map V.str)) h3
    have e4 := upd_same (H := H3) (a := p3) (o := .lst ((srt g.seats).map V.str))
    generalize upd H3 p3 (.lst ((srt g.seats).map V.str)) = H4 at t4 e4 ⊢
    have G4 := G3.same t4
    refine ⟨_, rfl, a.p, a.dx, _, rfl, G4.ob, rfl, a, g, rfl, G4, fun p4 h4 => ?_⟩
    have t5 := same_new (o := .lst ((srt g.waits).map V.str)) h4
    have e5 := upd_same (H := H4) (a := p4) (o := .lst ((srt g.waits).map V.str))
    generalize upd H4 p4 (.lst ((srt g.waits).map V.str)) = H5 at t5 e5 ⊢
    have G5 := G4.same t5
    refine ⟨_, rfl, a.p, a.dx, _, rfl, G5.ob, rfl, a, g, rfl, G5, fun p5 h5 => ?_⟩
    refine ⟨(by show 3 ≤ sizeLine; decide), fun q2 hq2 => ?_⟩
    have t7 := (same_new (o := .lst ((srt g.debts).map V.str)) h5).trans (same_new (o := .lst [.ref p3, .ref p4, .ref p5]) hq2)
    have e6 : (upd (upd H5 p5 (.lst ((srt g.debts).map V.str))) q2 (.lst [.ref p3, .ref p4, .ref p5])) p5 = some (.lst ((srt g.debts).map V.str)) := same_new hq2 _ _ upd_same
    have e7 : (upd (upd H5 p5 (.lst ((srt g.debts).map V.str))) q2 (.lst [.ref p3, .ref p4, .ref p5])) q2 = some (.lst [.ref p3, .ref p4, .ref p5]) := upd_same
    generalize upd (upd H5 p5 (.lst ((srt g.debts).map V.str))) q2 (.lst [.ref p3, .ref p4, .ref p5]) = H7 at t7 e6 e7 ⊢
    have s57 := t5.trans t7
    have s47 := t4.trans s57
    refine ⟨q1, q2, _, _, rfl, rfl, s47 _ _ e3, e7, (by show 9 ≤ sizeLine; decide), fun q3 hq3 => ?_⟩
    have t8 := same_new (o := .lst ([oV g.mark, .ref p1, .bl g.wished, .bl g.opened, oV g.source, .ref p2] ++ [.ref p3, .ref p4, .ref p5])) hq3
    have e8 : (upd H7 q3 (.lst ([oV g.mark, .ref p1, .bl g.wished, .bl g.opened, oV g.source, .ref p2] ++ [.ref p3, .ref p4, .ref p5]))) q3 = some (.lst ([oV g.mark, .ref p1, .bl g.wished, .bl g.opened, oV g.source, .ref p2] ++ [.ref p3, .ref p4, .ref p5])) := upd_same
    have df : Dp K (upd H7 q3 (.lst ([oV g.mark, .ref p1, .bl g.wished, .bl g.opened, oV g.source, .ref p2] ++ [.ref p3, .ref p4, .ref p5]))) (.ref q3) (factsD g) := by
      have z := DpAll.same (s47.trans t8) d3
      refine .lst (SqL.of e8) ?_
      have z1 := dpAll_snoc (dp_strs (t8 _ _ (t7 _ _ (t5 _ _ e4)))) z
      have z2 := dpAll_snoc (dp_strs (t8 _ _ (t7 _ _ e5))) z1
      exact dpAll_snoc (dp_strs (t8 _ _ e6)) z2
    change tSeq _ _ _ _ (upd H7 q3 (.lst ([oV g.mark, .ref p1, .bl g.wished, .bl g.opened, oV g.source, .ref p2] ++ [.ref p3, .ref p4, .ref p5])))
    generalize upd H7 q3 (.lst ([oV g.mark, .ref p1, .bl g.wished, .bl g.opened, oV g.source, .ref p2] ++ [.ref p3, .ref p4, .ref p5])) = H8 at t8 e8 df ⊢
    have s8 := (s3.trans s47).trans t8
    have M8 := M0.same s8
    -- due
    refine ⟨_, rfl, b.p, _, rfl, M8.m.get_word, ?_⟩
    obtain ⟨kvs8, hd8, hp8⟩ := id M8.m.nr
    refine ⟨_, rfl, b.p, _, rfl, M8.m.get_heard, b.near, kvs8, g.keys, rfl, .inl hd8, near_keys hp8, fun ys p6 perm sorted h6 => ?_⟩
    have ey : ys = srt g.keys := srt_of perm sorted
    subst ey
    have t9 := same_new (o := .lst ((srt g.keys).map V.str)) h6
    have e9 := upd_same (H := H8) (a := p6) (o := .lst ((srt g.keys).map V.str))
    generalize upd H8 p6 (.lst ((srt g.keys).map V.str)) = H9 at t9 e9 ⊢
    have M9 := M8.same t9
    refine ⟨_, rfl, b.p, _, rfl, M9.m.get_wish, ?_⟩
    refine ⟨_, rfl, b.p, _, rfl, M9.m.get_open, ?_⟩
    refine ⟨_, rfl, b.p, _, rfl, M9.m.get_why, ?_⟩
    refine ⟨_, rfl, b.p, _, rfl, M9.m.get_past, ?_⟩
    refine ⟨(by show 6 ≤ sizeLine; decide), fun q4 hq4 => ?_⟩
    have t10 := same_new (o := .lst [oV g.mark, .ref p6, .bl g.wished, .bl g.opened, oV g.source, .ref b.past]) hq4
    have e10 : (upd H9 q4 (.lst [oV g.mark, .ref p6, .bl g.wished, .bl g.opened, oV g.source, .ref b.past])) q4 = some (.lst [oV g.mark, .ref p6, .bl g.wished, .bl g.opened, oV g.source, .ref b.past]) := upd_same
    change tSeq _ _ _ _ (upd H9 q4 (.lst [oV g.mark, .ref p6, .bl g.wished, .bl g.opened, oV g.source, .ref b.past]))
    generalize upd H9 q4 (.lst [oV g.mark, .ref p6, .bl g.wished, .bl g.opened, oV g.source, .ref b.past]) = H10 at t10 e10 ⊢
    have M10 := M9.same t10
    obtain ⟨ps, hps, pps⟩ := id M10.m.pa
    have d10 : DpAll K H10 [oV g.mark, .ref p6, .bl g.wished, .bl g.opened, oV g.source, .ref b.past] [oD g.mark, sD (srt g.keys), .bool g.wished, .bool g.opened, oD g.source, .list (g.past.map pD)] :=
      .cons (dp_oV _) (.cons (dp_strs (t10 _ _ e9)) (.cons (.bl _) (.cons (.bl _) (.cons (dp_oV _) (.cons (.lst (SqL.of hps) (dpAll_of (fun _ _ q => dp_past q) pps)) .nil)))))
    refine ⟨_, rfl, ?_⟩
    refine ⟨(by show 3 ≤ sizeLine; decide), fun q5 hq5 => ?_⟩
    have t11 := same_new (o := .lst [.str "seats", .str "due", .str "owe"]) hq5
    have e11 := upd_same (H := H10) (a := q5) (o := .lst [.str "seats", .str "due", .str "owe"])
    generalize upd H10 q5 (.lst [.str "seats", .str "due", .str "owe"]) = H11 at t11 e11 ⊢
    refine ⟨q5, rfl, ⟨_, SqL.of e11⟩, fun D hD => ?_⟩
    refine lc_list (K := K) (a := q5) (xs := [.str "seats", .str "due", .str "owe"]) (fun i H' => ∃ acc, H' D = some (.lst acc) ∧ Paired (fun (l : List Str) v => ∃ p, v = V.ref p ∧ p ≠ D ∧ H' p = some (.lst (l.map V.str))) ([srt g.seats, srt g.waits, srt g.debts].take i) acc ∧ Same H11 H') ⟨[], upd_same, .nil, same_new hD⟩ (fun i H' _ ⟨_, _, _, s⟩ => SqL.of (s _ _ e11)) ?_ ?_
    · rintro i x H' hi ⟨acc, eA, dA, sA⟩
      have MA := (M10.same t11).same sA
      have il : i < 3 := (List.getElem?_eq_some_iff.mp hi).1
      have lA := paired_len dA
      refine ⟨rfl, ?_⟩
      have fin : ∀ (l : List Str) (p : Addr), H' p = none → [srt g.seats, srt g.waits, srt g.debts].take (i + 1) = [srt g.seats, srt g.waits, srt g.debts].take i ++ [l] →
          ∃ acc0, (upd H' p (.lst (l.map V.str))) D = some (.lst acc0) ∧ acc0.length < sizeLine ∧ ∃ acc1, (upd (upd H' p (.lst (l.map V.str))) D (.lst (acc0 ++ [.ref p]))) D = some (.lst acc1) ∧ Paired (fun (l' : List Str) v => ∃ p', v = V.ref p' ∧ p' ≠ D ∧ (upd (upd H' p (.lst (l.map V.str))) D (.lst (acc0 ++ [.ref p]))) p' = some (.lst (l'.map V.str))) ([srt g.seats, srt g.waits, srt g.debts].take (i + 1)) acc1 ∧ Same H11 (upd (upd H' p (.lst (l.map V.str))) D (.lst (acc0 ++ [.ref p]))) := by
        intro l p hp et
        have sp := same_new (o := .lst (l.map V.str)) hp
        have npD : D ≠ p := ne_of_none eA hp
        refine ⟨acc, sp _ _ eA, sz5 (by rw [lA, List.length_take]; omega), acc ++ [.ref p], upd_same, ?_, fun c u e => ?_⟩
        · rw [et]
          refine Paired.snoc (Paired.mapP dA fun l' v ⟨p', ev, n, e⟩ => ⟨p', ev, n, ?_⟩) ⟨p, rfl, npD.symm, ?_⟩
          · rw [upd_ne n]
            exact sp _ _ e
          · rw [upd_ne npD.symm]
            exact upd_same
        · have n : c ≠ D := ne_of_none e hD
          rw [upd_ne n]
          exact sp _ _ (sA _ _ e)
      obtain rfl | rfl | rfl : i = 0 ∨ i = 1 ∨ i = 2 := by omega
      · cases hi
        refine ⟨_, rfl, _, rfl, b.p, _, rfl, MA.m.get_seats, b.seats, g.seats, rfl, SqL.of MA.m.st, fun ys p perm sorted hp => ?_⟩
        have ey : ys = srt g.seats := srt_of perm sorted
        subst ey
        exact fin _ p hp rfl
      · cases hi
        refine ⟨_, rfl, _, rfl, b.p, _, rfl, MA.m.get_due, b.waits, g.waits, rfl, SqL.of MA.m.wt, fun ys p perm sorted hp => ?_⟩
        have ey : ys = srt g.waits := srt_of perm sorted
        subst ey
        exact fin _ p hp rfl
      · cases hi
        refine ⟨_, rfl, _, rfl, b.p, _, rfl, MA.m.get_owe, b.debts, g.debts, rfl, SqL.of MA.m.db, fun ys p perm sorted hp => ?_⟩
        have ey : ys = srt g.debts := srt_of perm sorted
        subst ey
        exact fin _ p hp rfl
    rintro H12 ⟨acc, eA, dA, sA⟩
    have lA := paired_len dA
    have s11 := t11.trans sA
    refine ⟨q4, D, _, _, rfl, rfl, s11 _ _ e10, eA, sz5' (by show 6 + acc.length ≤ 100000; rw [lA]; show 6 + 3 ≤ 100000; decide), fun q6 hq6 => ?_⟩
    have t13 := same_new (o := .lst ([oV g.mark, .ref p6, .bl g.wished, .bl g.opened, oV g.source, .ref b.past] ++ acc)) hq6
    have e13 : (upd H12 q6 (.lst ([oV g.mark, .ref p6, .bl g.wished, .bl g.opened, oV g.source, .ref b.past] ++ acc))) q6 = some (.lst ([oV g.mark, .ref p6, .bl g.wished, .bl g.opened, oV g.source, .ref b.past] ++ acc)) := upd_same
    have dd : Dp K (upd H12 q6 (.lst ([oV g.mark, .ref p6, .bl g.wished, .bl g.opened, oV g.source, .ref b.past] ++ acc))) (.ref q6) (factsD g) := by
      refine .lst (SqL.of e13) ?_
      refine dpAll_app (DpAll.same (s11.trans t13) d10) (dpAll_of (f := sD) (fun l v ⟨p, ev, n, e⟩ => ?_) dA)
      rw [ev]
      exact dp_strs (t13 _ _ e)
    change tSeq _ _ _ _ (upd H12 q6 (.lst ([oV g.mark, .ref p6, .bl g.wished, .bl g.opened, oV g.source, .ref b.past] ++ acc)))
    generalize upd H12 q6 (.lst ([oV g.mark, .ref p6, .bl g.wished, .bl g.opened, oV g.source, .ref b.past] ++ acc)) = H13 at t13 e13 dd ⊢
    have t8to13 := ((t9.trans t10).trans s11).trans t13
    -- they are equal
    obtain ⟨shp, can⟩ := facts_shaped bs
    refine ⟨_, rfl, _, rfl, _, _, Dp.same t8to13 df, dd, shp, shp, _, rfl, ?_⟩
    rw [eqv_self can]
    refine iteF ?_
    have s13 := s8.trans t8to13
    -- what was told is spoiled
    have G13 := G.same s13
    refine ⟨_, rfl, a.p, a.dx, _, rfl, G13.ob, rfl, a, g, rfl, G13, fun p7 h7 => ?_⟩
    have u1 := same_new (o := .lst ((srt g.keys).map V.str)) h7
    have f7 := upd_same (H := H13) (a := p7) (o := .lst ((srt g.keys).map V.str))
    generalize upd H13 p7 (.lst ((srt g.keys).map V.str)) = H14 at u1 f7 ⊢
    have G14 := G13.same u1
    refine ⟨_, rfl, a.p, a.dx, _, rfl, G14.ob, rfl, a, g, rfl, G14, fun p8 xs8 h8 hx8 px8 => ?_⟩
    have u2 := same_new (o := .lst xs8) h8
    have f8 := upd_same (H := H14) (a := p8) (o := .lst xs8)
    generalize upd H14 p8 (.lst xs8) = H15 at u2 f8 ⊢
    have G15 := G14.same u2
    refine ⟨_, rfl, a.p, a.dx, _, rfl, G15.ob, rfl, a, g, rfl, G15, fun p9 h9 => ?_⟩
    have u3 := same_new (o := .lst ((srt g.seats).map V.str)) h9
    have f9 := upd_same (H := H15) (a := p9) (o := .lst ((srt g.seats).map V.str))
    generalize upd H15 p9 (.lst ((srt g.seats).map V.str)) = H16 at u3 f9 ⊢
    have G16 := G15.same u3
    refine ⟨_, rfl, a.p, a.dx, _, rfl, G16.ob, rfl, a, g, rfl, G16, fun p10 h10 => ?_⟩
    have u4 := same_new (o := .lst ((srt g.waits).map V.str)) h10
    have f10 := upd_same (H := H16) (a := p10) (o := .lst ((srt g.waits).map V.str))
    generalize upd H16 p10 (.lst ((srt g.waits).map V.str)) = H17 at u4 f10 ⊢
    have G17 := G16.same u4
    refine ⟨_, rfl, a.p, a.dx, _, rfl, G17.ob, rfl, a, g, rfl, G17, fun p11 h11 => ?_⟩
    have u5 := same_new (o := .lst ((srt g.debts).map V.str)) h11
    have f11 := upd_same (H := H17) (a := p11) (o := .lst ((srt g.debts).map V.str))
    generalize upd H17 p11 (.lst ((srt g.debts).map V.str)) = H18 at u5 f11 ⊢
    refine ⟨(by show 5 ≤ sizeLine; decide), fun q7 hq7 => ?_⟩
    have u6 := same_new (o := .lst [.ref p7, .ref p8, .ref p9, .ref p10, .ref p11]) hq7
    have fq := upd_same (H := H18) (a := q7) (o := .lst [.ref p7, .ref p8, .ref p9, .ref p10, .ref p11])
    have v4 := u4.trans u5
    have v3 := u3.trans v4
    have v2 := u2.trans v3
    have v1 := u1.trans v2
    have lens : ∀ p ∈ [p7, p8, p9, p10, p11], H13 p = none ∧ p ≠ q7 ∧ ∃ ys, H18 p = some (.lst ys) ∧ ys.length ≤ 70000 := by
      have one : ∀ (p : Addr) (ys : List V), H13 p = none → H18 p = some (.lst ys) → ys.length ≤ 70000 → H13 p = none ∧ p ≠ q7 ∧ ∃ ys, H18 p = some (.lst ys) ∧ ys.length ≤ 70000 := fun p ys h1 h2 h3 => ⟨h1, ne_of_none h2 hq7, ys, h2, h3⟩
      intro p hp
      simp only [List.mem_cons, List.not_mem_nil, or_false] at hp
      rcases hp with rfl | rfl | rfl | rfl | rfl
      · exact one _ _ h7 (v2 _ _ f7) (by rw [List.length_map, srt_len, keys_len]; exact Nat.le_trans hl.n (by decide))
      · exact one _ _ (u1.free h8) (v3 _ _ f8) (by rw [paired_len px8]; exact Nat.le_trans hl.pa (by decide))
      · exact one _ _ ((u1.trans u2).free h9) (v4 _ _ f9) (by rw [List.length_map, srt_len]; exact Nat.le_trans hl.s (by decide))
      · exact one _ _ (((u1.trans u2).trans u3).free h10) (u5 _ _ f10) (by rw [List.length_map, srt_len]; exact Nat.le_trans hl.w (by decide))
      · exact one _ _ ((((u1.trans u2).trans u3).trans u4).free h11) f11 (by rw [List.length_map, srt_len]; exact Nat.le_trans hl.d (by decide))
    generalize upd H18 q7 (.lst [.ref p7, .ref p8, .ref p9, .ref p10, .ref p11]) = H19 at u6 fq ⊢
    have s19 := v1.trans u6
    refine ⟨q7, rfl, ⟨_, SqL.of fq⟩, for_list (K := K) (a := q7) (xs := [.ref p7, .ref p8, .ref p9, .ref p10, .ref p11]) (fun i σ H' => ∃ v, σ = [some (.ref a.p), some (.ref b.p), some (.ref q3), some (.ref q6), v, none, none, none] ∧ Same H13 H' ∧ H' q7 = some (.lst [.ref p7, .ref p8, .ref p9, .ref p10, .ref p11]) ∧ ∀ p ∈ [p7, p8, p9, p10, p11], ∃ ys, H' p = some (.lst ys) ∧ ys.length ≤ 70000 + i)
      ⟨none, rfl, s19, fq, fun p hp => by obtain ⟨_, _, ys, e, l⟩ := lens p hp; exact ⟨ys, u6 _ _ e, l⟩⟩ (fun i σ H' _ ⟨_, _, _, e, _⟩ => SqL.of e) ?_ ?_⟩
    · rintro i x σ H' hi ⟨v, rfl, sH, eq', each⟩
      have il : i < 5 := (List.getElem?_eq_some_iff.mp hi).1
      obtain ⟨p, hp, rfl⟩ : ∃ p ∈ [p7, p8, p9, p10, p11], x = V.ref p := by
        have z := List.mem_of_getElem? hi
        simpa [and_comm, eq_comm] using z
      obtain ⟨n1, n2, _⟩ := lens p hp
      obtain ⟨ys, ey, ly⟩ := each p hp
      refine ⟨_, rfl, .inl ⟨rfl, _, SqL.of ey⟩, p, ys, .str "zz", rfl, rfl, ey, sz5 (by omega), ?_⟩
      refine ⟨_, rfl, .inl ⟨rfl, _, SqL.of upd_same⟩, p, _, rfl, rfl, upd_same, ?_⟩
      refine ⟨_, rfl, fun c u e => ?_, ?_, fun c hc => ?_⟩
      · have n : c ≠ p := ne_of_none e n1
        rw [upd_ne n, upd_ne n]
        exact sH _ _ e
      · rw [upd_ne n2.symm, upd_ne n2.symm]
        exact eq'
      · by_cases n : c = p
        · subst n
          exact ⟨_, upd_same, by rw [List.length_reverse, List.length_append]; show ys.length + 1 ≤ _; omega⟩
        · obtain ⟨zs, ez, lz⟩ := each c hc
          exact ⟨zs, by rw [upd_ne n, upd_ne n]; exact ez, by omega⟩
    rintro σ H20 ⟨v, rfl, s20, _, _⟩
    -- house by house
    have s0 := s13.trans s20
    have M20 := M0.same s0
    have G20 := G.same s0
    obtain ⟨kvs, hd, hp⟩ := id M20.m.nr
    refine ⟨b.near, .dK kvs, hd, trivial, fun od => ?_⟩
    have npn : b.p ≠ b.near := fun z => (List.nodup_cons.mp M20.m.nd).1 (by rw [z]; simp)
    have kL : ∀ c u, H20 c = some u → c ≠ b.near → (upd H20 b.near (.frz od (.dK kvs))) c = some u := fun c u e n => by
      rw [upd_ne n]
      exact e
    have tL : TStay H20 (upd H20 b.near (.frz od (.dK kvs))) := fun c ys e => kL _ _ e fun z => by
      rw [z, hd] at e
      cases e
    have GL : GuestAt K T.C (upd H20 b.near (.frz od (.dK kvs))) a (gone g) := G20.stay (fun c u e hc => kL c u e fun z => hnb (z ▸ hc)) tL
    have oL : (upd H20 b.near (.frz od (.dK kvs))) b.p = some (.dK (mK b g)) := kL _ _ M20.m.ob npn
    have pL : Paired (nearR (upd H20 b.near (.frz od (.dK kvs)))) g.near kvs := Paired.mapP hp fun _ _ q => q.stay tL
    have eL : (upd H20 b.near (.frz od (.dK kvs))) b.near = some (.frz od (.dK kvs)) := upd_same
    have back : ∀ H', Same (upd H20 b.near (.frz od (.dK kvs))) H' → Same H20 (upd H' b.near (.dK kvs)) := fun H' sx c u e => by
      by_cases n : c = b.near
      · rw [n, hd] at e
        cases e
        rw [n]
        exact upd_same
      · rw [upd_ne n]
        exact sx _ _ (kL _ _ e n)
    generalize upd H20 b.near (.frz od (.dK kvs)) = HL at GL oL pL eL back ⊢
    refine ⟨_, rfl, b.p, _, rfl, get_of oL (by rfl), b.near, od, rfl, .inl ⟨kvs, eL, for_keys (fun i σ H' => ∃ v3 v5 v6, σ = [some (.ref a.p), some (.ref b.p), some (.ref q3), v3, v, v5, v6, none] ∧ Same HL H') ⟨_, none, none, rfl, Same.refl HL⟩ (fun i σ H' ⟨_, _, _, _, sx⟩ => sx _ _ eL) ?_ ?_⟩⟩
    · rintro i k0 x0 σ H' hi ⟨v3, v5, v6, rfl, sx⟩
      obtain ⟨⟨h, t⟩, hy, ek, _⟩ := paired_at pL hi
      have ek : k0 = Sum.inr h := ek
      subst ek
      have mem : h ∈ g.keys := List.mem_map.mpr ⟨_, List.mem_of_getElem? hy, rfl⟩
      have hN := bs.nN h mem
      have px := Paired.mapP pL fun _ _ q => q.stay fun c ys e => sx _ _ e
      obtain ⟨vt, hvt, tvt⟩ := near_get px mem
      have oX := sx _ _ oL
      have fin : ∀ (H1 : Hp) (d : Addr) (w6 : Option V) (D : Ends), Same HL H1 → H1 d = some (.lst [oV (heardV g h), .bl (aheadB g h)]) → (∀ H', Same HL H' → D.nx [some (.ref a.p), some (.ref b.p), some (.ref q3), some (.ref d), v, some (.str h), w6, none] H') →
          tIfS (tTest (tOp rNe (tCB (rRepr K) (tCons (tLst (tCons (tMeth T.C "heard_of" (spHeardOfg K T.C) [] E0 (tVar 0) (tCons (tVar 5) tNil)) (tCons (tMeth T.C "is_ahead" (spIsAheadg K T.C) [] E0 (tVar 0) (tCons (tVar 5) tNil)) tNil))) tNil)) (tCB (rRepr K) (tCons (tVar 3) tNil)))) (tRet (tC (.bl false))) tNext D [some (.ref a.p), some (.ref b.p), some (.ref q3), some (.ref d), v, some (.str h), w6, none] H1 := by
        intro H1 d w6 D sH ed nx
        have G1 := GL.same sH
        refine ⟨_, rfl, a.p, a.dx, _, rfl, G1.ob, rfl, _, rfl, a, g, h, rfl, G1, hN, mem, fun H2 z2 => ?_⟩
        have G2 := G1.same z2
        refine ⟨_, rfl, a.p, a.dx, _, rfl, G2.ob, rfl, _, rfl, a, g, h, rfl, G2, hN, mem, fun H3 z3 => ?_⟩
        refine ⟨(by show 2 ≤ sizeLine; decide), fun q hq => ?_⟩
        have z4 := same_new (o := .lst [oV (heardV g h), .bl (aheadB g h)]) hq
        have zz := (z2.trans z3).trans z4
        obtain ⟨y1, y2, y3⟩ := heard_shown (g := g) (h := h) bs
        refine ⟨q, _, rfl, .lst (SqL.of upd_same) (.cons (dp_oV _) (.cons (.bl _) .nil)), y1, y2, y3, ?_⟩
        refine ⟨_, rfl, d, _, rfl, .lst (SqL.of (zz _ _ ed)) (.cons (dp_oV _) (.cons (.bl _) .nil)), y1, y2, y3, rfl, _, rfl, ?_⟩
        rw [decide_eq_true rfl]
        exact iteF (nx _ (sH.trans zz))
      refine ⟨_, rfl, b.p, _, rfl, get_of oX (by rfl), _, rfl, b.near, vt, rfl, .inl ⟨kvs, Sum.inr h, .inr ⟨od, sx _ _ eL⟩, rfl, hvt.symm⟩, ?_⟩
      refine ⟨(by show 2 ≤ sizeLine; decide), fun d1 hd1 => ?_⟩
      have z1 := same_new (o := .lst [.non, .bl false]) hd1
      refine ⟨_, rfl, _, rfl, ?_⟩
      cases hna : nearAt g.near h with
      | none =>
        rw [hna] at tvt
        have tvt : vt = .non := tvt
        subst tvt
        refine iteF ?_
        refine fin _ d1 _ _ (sx.trans z1) ?_ fun H3 s3 => ⟨_, _, _, rfl, s3⟩
        have e1 : heardV g h = none := by unfold heardV; rw [hna]; rfl
        have e2 : aheadB g h = false := by unfold aheadB; rw [hna]
        rw [e1, e2]
        exact upd_same
      | some tt =>
        obtain ⟨wd, n⟩ := tt
        rw [hna] at tvt
        obtain ⟨ta, rfl, hta⟩ := tvt
        refine iteT ?_
        have hta1 := z1 _ _ hta
        have o1 := z1 _ _ oX
        have e1 : heardV g h = some wd := by unfold heardV; rw [hna]; rfl
        refine ⟨_, rfl, ta, _, _, .str wd, rfl, rfl, SqT.of hta1, rfl, ?_⟩
        refine ⟨_, rfl, b.p, oV g.mark, rfl, get_of o1 (by rfl), ?_⟩
        have last : ∀ bl : Bool, aheadB g h = bl → ∀ d2, (upd H' d1 (.lst [.non, .bl false])) d2 = none → (upd (upd H' d1 (.lst [.non, .bl false])) d2 (.lst [.str wd, .bl bl])) d2 = some (.lst [oV (heardV g h), .bl (aheadB g h)]) := fun bl eb d2 hd2 => by
          rw [e1, eb]
          exact upd_same
        cases hm : g.mark with
        | none =>
          refine ⟨false, rfl, (by show 2 ≤ sizeLine; decide), fun d2 hd2 => ?_⟩
          refine fin _ d2 _ _ ((sx.trans z1).trans (same_new hd2)) (last false ?_ d2 hd2) fun H3 s3 => ⟨_, _, _, rfl, s3⟩
          unfold aheadB
          rw [hna, hm]
          rfl
        | some m =>
          refine ⟨true, rfl, ?_⟩
          refine ⟨_, rfl, ta, _, _, .int (n : Int), rfl, rfl, SqT.of hta1, rfl, ?_⟩
          refine ⟨_, rfl, b.p, .int (g.since : Int), rfl, get_of o1 (by rfl), _, _, rfl, rfl, ?_⟩
          refine ⟨(by show 2 ≤ sizeLine; decide), fun d2 hd2 => ?_⟩
          refine fin _ d2 _ _ ((sx.trans z1).trans (same_new hd2)) (last _ ?_ d2 hd2) fun H3 s3 => ⟨_, _, _, rfl, s3⟩
          unfold aheadB
          rw [hna, hm]
          show (decide ((some m : Option Str) ≠ none) && decide (n ≤ g.since)) = decide ((n : Int) ≤ (g.since : Int))
          rw [decide_eq_true (show (some m : Option Str) ≠ none from fun z => by cases z), Bool.true_and]
          by_cases c : n ≤ g.since
          · rw [decide_eq_true c, decide_eq_true (by omega)]
          · rw [decide_eq_false c, decide_eq_false (by omega)]
    · rintro σ H' ⟨v3, v5, v6, rfl, sx⟩
      refine ⟨sx _ _ eL, ?_⟩
      exact k _ (s0.trans (back H' sx))

end
end Ha

/-! The law's three going side by side: the guest, its mate, the law's own dict, and the pot. -/
namespace Ha
open PySem PySem.Spec PyProof.Rows L2
structure LS (K : PySem.W.Frag) (C : Addr) (HB : Hp) (pt : Addr) (H : Hp) (a m b : GA) (gA gM gB : G) (n : Nat) : Prop where
  A : GuestAt K C H a gA
  M : GuestAt K C H m gM
  B : MineAt K H b gB
  am : ∀ x ∈ a.ft, x ∉ m.ft
  ab : ∀ x ∈ a.ft, x ∉ b.ft
  mb : ∀ x ∈ m.ft, x ∉ b.ft
  fA : ∀ x ∈ a.ft, HB x = none
  fM : ∀ x ∈ m.ft, HB x = none
  fB : ∀ x ∈ b.ft, HB x = none
  keep : ∀ c u, HB c = some u → c ≠ pt → H c = some u
  pot : PotAt H pt n
  hpt : HB pt ≠ none
section
variable {K : PySem.W.Frag} {C : Addr} {HB H H' : Hp} {pt : Addr} {a m b a' : GA} {gA gM gB g' : G} {n n' : Nat}
theorem new_keep {HB H H' : Hp} {pt : Addr} {F F' : List Addr} (keep : ∀ c u, HB c = some u → c ≠ pt → H c = some u) (hpt : H pt ≠ none) (fA : ∀ x ∈ F, HB x = none) (f : Frm F H F' H') : (∀ x ∈ F', HB x = none) ∧ ∀ c u, HB c = some u → c ≠ pt → H' c = some u := by
  refine ⟨fun x hx => ?_, fun c u e nc => f.keep c u (keep c u e nc) fun z => ?_⟩
  · rcases f.sub x hx with z | z
    · exact fA x z
    · cases e : HB x with
      | none => rfl
      | some u =>
        by_cases hp : x = pt
        · exact absurd (hp ▸ z) hpt
        · rw [keep x u e hp] at z
          cases z
  · rw [fA c z] at e
    cases e
theorem frm_disj {F F' : List Addr} {H H' : Hp} (f : Frm F H F' H') {L : List Addr} (hL : ∀ x ∈ L, ∃ u, H x = some u) (d : ∀ x ∈ L, x ∉ F) : ∀ x ∈ L, x ∉ F' := fun x hx => by
  obtain ⟨u, e⟩ := hL x hx
  exact f.off e (d x hx)
theorem GuestAt.has (G : GuestAt K C H a gA) : ∀ x ∈ a.ft, ∃ u, H x = some u := fun x hx => by
  obtain ⟨u, e, _⟩ := G.dom x hx
  exact ⟨u, e⟩
theorem MineAt.has (M : MineAt K H a gA) : ∀ x ∈ a.ft, ∃ u, H x = some u := fun x hx => by
  obtain ⟨u, e, _⟩ := M.dom x hx
  exact ⟨u, e⟩
theorem PotAt.ne {n : Nat} (p : PotAt H pt n) : H pt ≠ none := by
  obtain ⟨u, e, _⟩ := p.some
  rw [e]
  exact fun z => by cases z
theorem LS.same (S : LS K C HB pt H a m b gA gM gB n) (s : Same H H') : LS K C HB pt H' a m b gA gM gB n :=
  { S with
    A := S.A.same s
    M := S.M.same s
    B := S.B.stay (fun c u e _ => s c u e) fun c ys e => s _ _ e
    keep := (fun c u e nc => s _ _ (S.keep c u e nc))
    pot := S.pot.stay fun u e => s _ _ e }
/-- the pot is drawn from -/
theorem LS.mvP (S : LS K C HB pt H a m b gA gM gB n) (p : PotAt H' pt n') (f : Frm [pt] H [pt] H') : LS K C HB pt H' a m b gA gM gB n' := by
  have np : ∀ x, HB x = none → x ∉ [pt] := fun x e z => S.hpt (List.mem_singleton.mp z ▸ e)
  exact { S with
    A := S.A.off f fun x hx => np x (S.fA x hx)
    M := S.M.off f fun x hx => np x (S.fM x hx)
    B := S.B.off f fun x hx => np x (S.fB x hx)
    keep := (fun c u e nc => f.keep _ _ (S.keep c u e nc) (by simpa using nc))
    pot := p }
theorem LS.ptA (S : LS K C HB pt H a m b gA gM gB n) : pt ∉ a.ft := fun z => S.hpt (S.fA _ z)
theorem LS.ptM (S : LS K C HB pt H a m b gA gM gB n) : pt ∉ m.ft := fun z => S.hpt (S.fM _ z)
theorem LS.ptB (S : LS K C HB pt H a m b gA gM gB n) : pt ∉ b.ft := fun z => S.hpt (S.fB _ z)
theorem pot_off {F F' : List Addr} (p : PotAt H pt n) (f : Frm F H F' H') (h : pt ∉ F) : PotAt H' pt n := p.stay fun u e => f.keep _ _ e h
/-- the guest moves -/
theorem LS.mvA (S : LS K C HB pt H a m b gA gM gB n) (G : GuestAt K C H' a' g') (f : Frm a.ft H a'.ft H') : LS K C HB pt H' a' m b g' gM gB n := by
  have nk := new_keep S.keep S.pot.ne S.fA f
  exact { S with
    A := G
    M := S.M.off f fun x hx z => S.am x z hx
    B := S.B.off f fun x hx z => S.ab x z hx
    am := (fun x hx z => frm_disj f S.M.has (fun x hx z => S.am x z hx) x z hx)
    ab := (fun x hx z => frm_disj f S.B.has (fun x hx z => S.ab x z hx) x z hx)
    fA := nk.1
    keep := nk.2
    pot := pot_off S.pot f S.ptA }
/-- the mate moves -/
theorem LS.mvM (S : LS K C HB pt H a m b gA gM gB n) (G : GuestAt K C H' a' g') (f : Frm m.ft H a'.ft H') : LS K C HB pt H' a a' b gA g' gB n := by
  have nk := new_keep S.keep S.pot.ne S.fM f
  exact { S with
    A := S.A.off f fun x hx => S.am x hx
    M := G
    B := S.B.off f fun x hx z => S.mb x z hx
    am := frm_disj f S.A.has S.am
    mb := (fun x hx z => frm_disj f S.B.has (fun x hx z => S.mb x z hx) x z hx)
    fM := nk.1
    keep := nk.2
    pot := pot_off S.pot f S.ptM }
/-- the law's own moves -/
theorem LS.mvB (S : LS K C HB pt H a m b gA gM gB n) (G : MineAt K H' a' g') (f : Frm b.ft H a'.ft H') : LS K C HB pt H' a m a' gA gM g' n := by
  have nk := new_keep S.keep S.pot.ne S.fB f
  exact { S with
    A := S.A.off f fun x hx => S.ab x hx
    M := S.M.off f fun x hx => S.mb x hx
    B := G
    ab := frm_disj f S.A.has S.ab
    mb := frm_disj f S.M.has S.mb
    fB := nk.1
    keep := nk.2
    pot := pot_off S.pot f S.ptB }
end
end Ha

/-! The road of many houses, on the mirror: no step of it is refused. -/
namespace Ha
open PySem PySem.Spec PyProof.Rows L2
/-- deeds one after another, the letters taken away each time -/
def runs : G → List What → Option G
  | g, [] => some g
  | g, W :: r => match stepR g W with
    | none => none
    | some g' => runs (gone g') r
theorem runs_cons {g g' : G} {W : What} {r : List What} (h : stepR g W = some g') : runs g (W :: r) = runs (gone g') r := by
  show (match stepR g W with | none => none | some g' => runs (gone g') r) = _
  rw [h]
theorem runs_app {g g1 : G} {xs ys : List What} (h : runs g xs = some g1) : runs g (xs ++ ys) = runs g1 ys := by
  induction xs generalizing g with
  | nil =>
    have h' : some g = some g1 := h
    cases h'
    rfl
  | cons W r ih =>
    cases e : stepR g W with
    | none =>
      have h' : (match stepR g W with | none => none | some g' => runs (gone g') r) = some g1 := h
      rw [e] at h'
      cases h'
    | some g' =>
      rw [runs_cons e] at h
      rw [List.cons_append, runs_cons e]
      exact ih h
/-! ### what is given -/
theorem words_mem {g : G} {ah : Bool} {o : Option Str} : o ∈ words g ah ↔ ∃ h ∈ g.keys, tellW ah g.since (nearAt g.near h) = o := by
  unfold words
  rw [List.mem_map]
  constructor
  · rintro ⟨h, hh, e⟩
    exact ⟨h, srt_mem.mp hh, e⟩
  · rintro ⟨h, hh, e⟩
    exact ⟨h, srt_mem.mpr hh, e⟩
theorem clear_ne : wClear ≠ wBarred := by decide +kernel
/-- nothing is given where a house has said nothing, and none is barred -/
theorem given_nothing {g : G} {ah : Bool} (hw : g.wished = true) (hc : ∀ h ∈ g.keys, ∀ w n, nearAt g.near h = some (w, n) → w = wClear) {h : Str} (hk : h ∈ g.keys) (hn : nearAt g.near h = none) : given g ah = none := by
  unfold given givenW
  have h1 : ¬ (g.wished = false ∨ some wBarred ∈ words g ah) := by
    rintro (z | z)
    · rw [hw] at z
      cases z
    · obtain ⟨x, hx, e⟩ := words_mem.mp z
      cases e2 : nearAt g.near x with
      | none =>
        rw [e2] at e
        cases e
      | some t =>
        obtain ⟨w, n⟩ := t
        rw [e2] at e
        have e' : (if (!ah || decide (n ≤ g.since)) = true then some w else none) = some wBarred := e
        split at e'
        · exact clear_ne ((hc x hx w n e2).symm.trans (Option.some.inj e'))
        · cases e'
  rw [if_neg h1]
  have h2 : ¬ (words g ah).countP (fun o => decide (o = some wClear)) = (words g ah).length := fun z => by
    have all := List.countP_eq_length.mp z
    have m : (none : Option Str) ∈ words g ah := words_mem.mpr ⟨h, hk, by rw [hn]; rfl⟩
    have q := all _ m
    cases (of_decide_eq_true q)
  rw [if_neg h2]
/-- all are clear -/
theorem given_all {g : G} (hw : g.wished = true) (hc : ∀ h ∈ g.keys, ∃ n, nearAt g.near h = some (wClear, n)) : given g false = some wIn := by
  unfold given givenW
  have h1 : ¬ (g.wished = false ∨ some wBarred ∈ words g false) := by
    rintro (z | z)
    · rw [hw] at z
      cases z
    · obtain ⟨x, hx, e⟩ := words_mem.mp z
      obtain ⟨n, e2⟩ := hc x hx
      rw [e2] at e
      exact clear_ne (Option.some.inj (e : some wClear = some wBarred))
  rw [if_neg h1]
  have h2 : (words g false).countP (fun o => decide (o = some wClear)) = (words g false).length := by
    refine List.countP_eq_length.mpr fun o ho => ?_
    obtain ⟨x, hx, e⟩ := words_mem.mp ho
    obtain ⟨n, e2⟩ := hc x hx
    rw [e2] at e
    exact decide_eq_true (e.symm : o = some wClear)
  rw [if_pos h2]
theorem set_at {t : Option (Str × Nat)} {h x : Str} : ∀ {l : List (Str × Option (Str × Nat))}, nearAt (nearSet l h t) x = if x = h ∧ h ∈ l.map (·.1) then t else nearAt l x
  | [] => by
    show (none : Option (Str × Nat)) = if x = h ∧ h ∈ [] then t else none
    rw [if_neg (fun z => by cases z.2)]
  | (k, u) :: r => by
    have ih := set_at (t := t) (h := h) (x := x) (l := r)
    have e0 : nearSet ((k, u) :: r) h t = (if k = h then (k, t) else (k, u)) :: nearSet r h t := rfl
    rw [e0]
    by_cases c : k = h
    · rw [if_pos c]
      show (if k = x then t else nearAt (nearSet r h t) x) = _
      by_cases d : k = x
      · rw [if_pos d, if_pos ⟨d.symm.trans c, by rw [c]; exact List.mem_cons_self⟩]
      · have dn : ¬ x = h := fun z => d (c.trans z.symm)
        rw [if_neg d, ih, if_neg (fun z => dn z.1), if_neg (fun z => dn z.1)]
        show _ = if k = x then u else nearAt r x
        rw [if_neg d]
    · rw [if_neg c]
      show (if k = x then u else nearAt (nearSet r h t) x) = _
      by_cases d : k = x
      · have dn : ¬ x = h := fun z => c (d.trans z)
        rw [if_pos d, if_neg (fun z => dn z.1)]
        show _ = if k = x then u else nearAt r x
        rw [if_pos d]
      · rw [if_neg d, ih]
        have e1 : nearAt ((k, u) :: r) x = nearAt r x := by
          show (if k = x then u else nearAt r x) = _
          rw [if_neg d]
        rw [e1]
        by_cases f : x = h ∧ h ∈ r.map (·.1)
        · rw [if_pos f, if_pos ⟨f.1, List.mem_cons_of_mem _ f.2⟩]
        · rw [if_neg f, if_neg (fun z => f ⟨z.1, (List.mem_cons.mp z.2).resolve_left fun y => c y.symm⟩)]
theorem set_keysG (l : List (Str × Option (Str × Nat))) (h : Str) (t : Option (Str × Nat)) : (nearSet l h t).map (·.1) = l.map (·.1) := set_keys l h t
/-! ### the answers -/
theorem close_open {g : G} (hm : g.mark = none) (hg : given { g with opened := false, source := none } false = none) :
    (close g).near = g.near ∧ (close g).wished = g.wished ∧ (close g).ears = g.ears ∧ (close g).mark = none ∧ (close g).opened = false ∧ (close g).debts = [] ∧ (close g).own = g.own := by
  have e : lookN { g with opened := false, source := none } = { g with opened := false, source := none } := by
    unfold lookN
    rw [hg]
  unfold close close1
  rw [e]
  have n : ({ tellAll { g with opened := false, source := none } (srt g.debts) lHeard with debts := [] } : G).mark ≠ some wIn := by
    show g.mark ≠ some wIn
    rw [hm]
    exact fun z => by cases z
  rw [close2_no n]
  exact ⟨rfl, rfl, rfl, hm, rfl, rfl, rfl⟩
theorem ans_run : ∀ (rest : List Str) (g : G), rest ≠ [] → rest.Nodup → (∀ h ∈ rest, h ∈ g.keys) → g.waits.Perm rest → g.mark = none → (∀ g2 : G, g2.near = g.near → g2.wished = g.wished → given g2 false = none) →
    ∃ g', runs g (rest.map (What.hear · lHeard)) = some g' ∧ g'.near = g.near ∧ g'.wished = g.wished ∧ g'.ears = g.ears ∧ g'.mark = none ∧ g'.debts = [] ∧ g'.opened = false ∧ g'.own = g.own
  | [], _, h, _, _, _, _, _ => absurd rfl h
  | h :: r, g, _, nd, hk, hp, hm, hg => by
    have hw : h ∈ g.waits := hp.mem_iff.mpr List.mem_cons_self
    have hs : stepR g (.hear h lHeard) = some (answered g h) := by
      show stepH g h lHeard = _
      unfold stepH
      rw [if_neg (fun z => z (hk h List.mem_cons_self)), if_neg (by decide +kernel), if_neg (by decide +kernel), if_pos rfl, if_pos hw]
    rw [List.map_cons, runs_cons hs]
    have pf : (g.waits.filter fun x => decide (x ≠ h)).Perm r := by
      have z := hp.filter fun x => decide (x ≠ h)
      have e : (h :: r).filter (fun x => decide (x ≠ h)) = r := by
        rw [List.filter_cons_of_neg (by simp)]
        exact List.filter_eq_self.mpr fun x hx => decide_eq_true fun y => (List.nodup_cons.mp nd).1 (y ▸ hx)
      rw [e] at z
      exact z
    unfold answered
    cases r with
    | nil =>
      have e : (g.waits.filter fun x => decide (x ≠ h)) = [] := List.Perm.eq_nil pf
      rw [if_pos e]
      obtain ⟨c1, c2, c3, c4, c5, c6, c7⟩ := close_open (g := { g with waits := g.waits.filter fun x => decide (x ≠ h) }) hm (hg _ rfl rfl)
      exact ⟨_, rfl, c1, c2, c3, c4, c6, c5, c7⟩
    | cons h2 r2 =>
      have e : ¬ (g.waits.filter fun x => decide (x ≠ h)) = [] := fun z => by
        rw [z] at pf
        cases (List.Perm.nil_eq pf)
      rw [if_neg e]
      obtain ⟨g', h1, h2', h3, h4, h5, h6, h7, h8⟩ := ans_run (h2 :: r2) (gone { g with waits := g.waits.filter fun x => decide (x ≠ h) }) (fun z => by cases z) (List.nodup_cons.mp nd).2 (fun x hx => hk x (List.mem_cons_of_mem _ hx)) pf hm (fun g2 a1 a2 => hg g2 a1 a2)
      exact ⟨g', h1, h2', h3, h4, h5, h6, h7, h8⟩
end Ha

/-! The road of many houses, its other parts. -/
namespace Ha
open PySem PySem.Spec PyProof.Rows L2
theorem lookN_none {g : G} (h : given g false = none) : lookN g = g := by
  unfold lookN
  rw [h]
theorem lookN_some {g : G} {w : Str} (h : given g false = some w) : lookN g = settle g w := by
  unfold lookN
  rw [h]
theorem look_plain {g : G} {c : Option Str} (ho : g.opened = false) (hm : g.mark = none) : look g c = lookN g := by
  unfold look
  rw [if_neg (by rw [ho]; exact Bool.false_ne_true), hm]
theorem look_up {g : G} {c : Option Str} {m : Str} (ho : g.opened = false) (hm : g.mark = some m) (hg : given g true = none) (hk : g.knows ≠ []) : look g c = giveUp1 g c := by
  unfold look
  rw [if_neg (by rw [ho]; exact Bool.false_ne_true), hm]
  show (if given g true = some m then g else giveUp g c) = _
  rw [hg, if_neg (fun z => by cases z)]
  unfold giveUp
  rw [if_neg hk]
theorem look_keep {g : G} {c : Option Str} {m : Str} (ho : g.opened = false) (hm : g.mark = some m) (hg : given g true = some m) : look g c = g := by
  unfold look
  rw [if_neg (by rw [ho]; exact Bool.false_ne_true), hm]
  show (if given g true = some m then g else giveUp g c) = _
  rw [if_pos hg]
theorem clr_run : ∀ (rest : List Str) (g : G), rest ≠ [] → rest.Nodup → (∀ h ∈ rest, h ∈ g.keys) → g.mark = none → g.opened = false → g.wished = true → g.debts = [] →
    (∀ h ∈ g.keys, (h ∈ rest → nearAt g.near h = none) ∧ (h ∉ rest → ∃ n, nearAt g.near h = some (wClear, n))) →
    ∃ g', runs g (rest.map (What.hear · (lWord wClear))) = some g' ∧ g'.mark = some wIn ∧ g'.opened = false ∧ g'.wished = true ∧ g'.debts = [] ∧ g'.keys = g.keys ∧ g'.knows = srt g.keys ∧ (∀ h ∈ g.keys, ∃ n, nearAt g'.near h = some (wClear, n)) ∧ g'.own = g.own
  | [], _, h, _, _, _, _, _, _, _ => absurd rfl h
  | h :: r, g, _, nd, hk, hm, ho, hw, hd, hn => by
    have hkh := hk h List.mem_cons_self
    have hnh := (hn h hkh).1 List.mem_cons_self
    have hs : stepR g (.hear h (lWord wClear)) = some (hearWord g h wClear) := by
      show stepH g h (lWord wClear) = _
      unfold stepH
      rw [if_neg (fun z => z hkh), if_pos (.inl rfl), if_neg (fun z => z.elim (fun z => z hnh) fun z => by rw [hd] at z; cases z)]
      rfl
    rw [List.map_cons, runs_cons hs]
    have hr : h ∉ r := (List.nodup_cons.mp nd).1
    have nr := (List.nodup_cons.mp nd).2
    have at1 : ∀ x, nearAt (nearSet g.near h (some (wClear, g.ears + 1))) x = if x = h then some (wClear, g.ears + 1) else nearAt g.near x := fun x => by
      rw [set_at]
      by_cases c : x = h
      · rw [if_pos ⟨c, hkh⟩, if_pos c]
      · rw [if_neg (fun z => c z.1), if_neg c]
    have el : hearWord g h wClear = lookN { g with ears := g.ears + 1, near := nearSet g.near h (some (wClear, g.ears + 1)) } := look_plain ho hm
    have ek : ({ g with ears := g.ears + 1, near := nearSet g.near h (some (wClear, g.ears + 1)) } : G).keys = g.keys := set_keys _ _ _
    have cl : ∀ x ∈ g.keys, x ∉ r → ∃ n, nearAt (nearSet g.near h (some (wClear, g.ears + 1))) x = some (wClear, n) := fun x hx hxr => by
      rw [at1]
      by_cases c : x = h
      · rw [if_pos c]
        exact ⟨_, rfl⟩
      · rw [if_neg c]
        exact (hn x hx).2 fun z => (List.mem_cons.mp z).elim c hxr
    rw [el]
    cases r with
    | nil =>
      have gs : given { g with ears := g.ears + 1, near := nearSet g.near h (some (wClear, g.ears + 1)) } false = some wIn := given_all hw fun x hx => by
        rw [ek] at hx
        exact cl x hx (fun z => by cases z)
      rw [lookN_some gs]
      refine ⟨_, rfl, rfl, ho, hw, hd, ek, ?_, fun x hx => cl x hx (fun z => by cases z), rfl⟩
      show srt ({ g with ears := g.ears + 1, near := nearSet g.near h (some (wClear, g.ears + 1)) } : G).keys = srt g.keys
      rw [ek]
    | cons h2 r2 =>
      have hk2 : h2 ∈ g.keys := hk h2 (List.mem_cons_of_mem _ List.mem_cons_self)
      have n2 : h2 ≠ h := fun z => hr (z ▸ List.mem_cons_self)
      have at2 : nearAt (nearSet g.near h (some (wClear, g.ears + 1))) h2 = none := by
        rw [at1, if_neg n2]
        exact (hn h2 hk2).1 (List.mem_cons_of_mem _ List.mem_cons_self)
      have gn : given { g with ears := g.ears + 1, near := nearSet g.near h (some (wClear, g.ears + 1)) } false = none := by
        refine given_nothing hw (fun x hx w n e => ?_) (h := h2) (by rw [ek]; exact hk2) at2
        rw [ek] at hx
        have e : nearAt (nearSet g.near h (some (wClear, g.ears + 1))) x = some (w, n) := e
        by_cases c : x ∈ h2 :: r2
        · have nx : x ≠ h := fun z => hr (z ▸ c)
          rw [at1, if_neg nx, (hn x hx).1 (List.mem_cons_of_mem _ c)] at e
          cases e
        · obtain ⟨n', e'⟩ := cl x hx c
          rw [e'] at e
          cases e
          rfl
      rw [lookN_none gn]
      obtain ⟨g', q1, q2, q3, q4, q5, q6, q7, q8, q9⟩ := clr_run (h2 :: r2) (gone { g with ears := g.ears + 1, near := nearSet g.near h (some (wClear, g.ears + 1)) }) (fun z => by cases z) nr (fun x hx => by
          show x ∈ ({ g with ears := g.ears + 1, near := nearSet g.near h (some (wClear, g.ears + 1)) } : G).keys
          rw [ek]
          exact hk x (List.mem_cons_of_mem _ hx)) hm ho hw hd (fun x hx => by
          have hx : x ∈ ({ g with ears := g.ears + 1, near := nearSet g.near h (some (wClear, g.ears + 1)) } : G).keys := hx
          rw [ek] at hx
          refine ⟨fun c => ?_, fun c => cl x hx c⟩
          have nx : x ≠ h := fun z => hr (z ▸ c)
          show nearAt (nearSet g.near h (some (wClear, g.ears + 1))) x = none
          rw [at1, if_neg nx]
          exact (hn x hx).1 (List.mem_cons_of_mem _ c))
      refine ⟨g', q1, q2, q3, q4, q5, q6.trans ek, ?_, fun x hx => q8 x ?_, q9⟩
      · have z : g'.knows = srt ({ g with ears := g.ears + 1, near := nearSet g.near h (some (wClear, g.ears + 1)) } : G).keys := q7
        rw [ek] at z
        exact z
      · show x ∈ ({ g with ears := g.ears + 1, near := nearSet g.near h (some (wClear, g.ears + 1)) } : G).keys
        rw [ek]
        exact hx
/-- what stands behind the joins -/
structure IJ (g : G) (ks : List Str) : Prop where
  w : g.wished = false
  m : g.mark = some wOut
  o : g.opened = false
  k : g.keys = ks
  n : ∀ p ∈ g.near, p.2 = none
  p : g.knows.Perm ks
  d : g.debts = []
theorem near_allnone {h : Str} : ∀ {l : List (Str × Option (Str × Nat))}, (∀ p ∈ l, p.2 = none) → nearAt l h = none
  | [], _ => rfl
  | (k, u) :: r, hn => by
    show (if k = h then u else nearAt r h) = none
    by_cases c : k = h
    · rw [if_pos c]
      exact hn _ List.mem_cons_self
    · rw [if_neg c]
      exact near_allnone fun p hp => hn p (List.mem_cons_of_mem _ hp)
theorem given_out {g : G} {ah : Bool} (h : g.wished = false) : given g ah = some wOut := by
  unfold given givenW
  rw [if_pos (.inl h)]
theorem join_step {g : G} {ks : List Str} {h : Str} (J : IJ g ks) (ho : h ≠ g.own) (hk : h ∉ ks) : ∃ g', stepR g (.join h) = some g' ∧ IJ (gone g') (ks ++ [h]) ∧ g'.own = g.own := by
  have hk' : h ∉ g.keys := by rw [J.k]; exact hk
  have e1 : joinA g h = { g with near := g.near ++ [(h, none)] } := look_keep (g := { g with near := g.near ++ [(h, none)] }) J.o J.m (given_out J.w)
  have hn : h ∉ g.knows := fun z => hk (J.p.mem_iff.mp z)
  have e2 : joinB { g with near := g.near ++ [(h, none)] } h = tell { g with near := g.near ++ [(h, none)], knows := srt (g.knows ++ [h]) } h (lWord wOut) := (joinB_some (g := { g with near := g.near ++ [(h, none)] }) (m := wOut) J.m).trans (if_neg hn)
  refine ⟨tell { g with near := g.near ++ [(h, none)], knows := srt (g.knows ++ [h]) } h (lWord wOut), (by
    show (if h = g.own ∨ h ∈ g.keys then none else some (joinB (joinA g h) h)) = _
    rw [if_neg (fun z => z.elim ho hk'), e1, e2]), ?_, rfl⟩
  refine ⟨J.w, J.m, J.o, ?_, fun p hp => ?_, ?_, J.d⟩
  · show (g.near ++ [(h, none)]).map Prod.fst = ks ++ [h]
    rw [List.map_append, ← J.k]
    rfl
  · rcases List.mem_append.mp (show p ∈ g.near ++ [(h, none)] from hp) with z | z
    · exact J.n p z
    · rw [List.mem_singleton.mp z]
  · show (srt (g.knows ++ [h])).Perm (ks ++ [h])
    exact (srt_perm _).trans (J.p.append_right [h])
theorem ij_g0 (n : Str) : IJ (gone (g0 n)) [] := by
  have e : g0 n = settle (gS n) wOut := by
    unfold g0
    rw [look_plain rfl rfl]
    exact lookN_some (given_out rfl)
  rw [e]
  exact ⟨rfl, rfl, rfl, rfl, fun p hp => absurd hp (by simp [gone, settle, tellAll, gS]), (by show (srt (gS n).keys).Perm []; exact srt_perm _), rfl⟩
theorem g0_going (n : Str) : (g0 n).going = [] ∧ (g0 n).own = n ∧ Fit 0 1 0 (g0 n) := by
  have e : g0 n = settle (gS n) wOut := by
    unfold g0
    rw [look_plain rfl rfl]
    exact lookN_some (given_out rfl)
  have es : srt (gS n).keys = [] := srt_nil
  rw [e]
  refine ⟨?_, rfl, Nat.le_refl _, ?_, Nat.le_refl _, Nat.le_refl _, Nat.le_refl _, Nat.le_refl _, ?_⟩
  · show ([] : List (Str × List Str)) ++ (srt (gS n).keys).map _ = []
    rw [es]
    rfl
  · show (srt (gS n).keys).length ≤ 0
    rw [es]
    exact Nat.le_refl _
  · show (([] : List (Str × List Str)) ++ (srt (gS n).keys).map _).length ≤ 0
    rw [es]
    exact Nat.le_refl _
/-- the whole road -/
theorem road_runs {g : G} {ks ord : List Str} {one wd : Str} (J : IJ g ks) (hp : ord.Perm ks) (nd : ks.Nodup) (h1 : one ∈ ord) (hw : wd = wClear ∨ wd = wBarred) : ∃ g', runs g (roadW ord one wd) = some g' := by
  have nO : ord.Nodup := hp.nodup_iff.mpr nd
  have neO : ord ≠ [] := fun z => by rw [z] at h1; cases h1
  have kO : ∀ h ∈ ord, h ∈ g.keys := fun h hh => by rw [J.k]; exact hp.mem_iff.mp hh
  have nn : ∀ h, nearAt g.near h = none := fun h => near_allnone J.n
  have h1k := kO one h1
  -- the wish
  have gw : given { g with wished := true } true = none := given_nothing rfl (fun h _ w n e => by rw [nn h] at e; cases e) (h := one) h1k (nn one)
  have hkn : g.knows ≠ [] := fun z => by
    have q := J.p
    rw [z] at q
    have : ks = [] := List.Perm.nil_eq q |>.symm
    rw [this] at hp
    exact neO (List.Perm.eq_nil hp)
  have s1 : stepR g .wish = some (giveUp1 { g with wished := true } none) := by
    show (if g.wished = true then none else some (look { g with wished := true } none)) = _
    rw [if_neg (by rw [J.w]; exact Bool.false_ne_true), look_up (g := { g with wished := true }) (m := wOut) J.o J.m gw hkn]
  -- the answers
  obtain ⟨g2, r2, a1, a2, a3, a4, a5, a6, a7⟩ := ans_run ord (gone (giveUp1 { g with wished := true } none)) neO nO kO ((J.p.trans hp.symm) : (g.knows).Perm ord) rfl (fun gg z1 z2 => by
    have z1 : gg.near = g.near := z1
    have z2 : gg.wished = true := z2
    refine given_nothing z2 (fun h _ w n e => ?_) (h := one) ?_ ?_
    · rw [z1, nn h] at e
      cases e
    · unfold G.keys
      rw [z1]
      exact h1k
    · rw [z1]
      exact nn one)
  have a1 : g2.near = g.near := a1
  have a2 : g2.wished = true := a2
  have k2 : g2.keys = g.keys := by
    unfold G.keys
    rw [a1]
  -- all are clear
  obtain ⟨g3, r3, b1, b2, b3, b4, b5, b6, b7, b8⟩ := clr_run ord g2 neO nO (fun h hh => by rw [k2]; exact kO h hh) a4 a6 a2 a5 (fun h hh => ⟨fun _ => by rw [a1]; exact nn h, fun c => by
    rw [k2, J.k] at hh
    exact absurd (hp.mem_iff.mpr hh) c⟩)
  have k3 : g3.keys = g.keys := b5.trans k2
  -- one of them opens
  have h13 : one ∈ g3.keys := by rw [k3]; exact h1k
  have k3o : ({ g3 with near := nearSet g3.near one none } : G).keys = g3.keys := set_keys _ _ _
  have at3 : ∀ x, nearAt (nearSet g3.near one none) x = if x = one then none else nearAt g3.near x := fun x => by
    rw [set_at]
    by_cases c : x = one
    · rw [if_pos ⟨c, h13⟩, if_pos c]
    · rw [if_neg (fun z => c z.1), if_neg c]
  have cl3 : ∀ x ∈ g3.keys, ∀ w n, nearAt (nearSet g3.near one none) x = some (w, n) → w = wClear := fun x hx w n e => by
    rw [at3] at e
    by_cases c : x = one
    · rw [if_pos c] at e
      cases e
    · rw [if_neg c] at e
      obtain ⟨n', e'⟩ := b7 x (by rw [← b5]; exact hx)
      rw [e'] at e
      cases e
      rfl
  have at3o : nearAt (nearSet g3.near one none) one = none := by
    rw [at3, if_pos rfl]
  have g3n : given { g3 with near := nearSet g3.near one none } true = none := given_nothing b3 (fun x hx w n e => cl3 x (by rw [← k3o]; exact hx) w n e) (h := one) (by rw [k3o]; exact h13) at3o
  have kn3 : g3.knows ≠ [] := fun z => by
    rw [b6, k2] at z
    have q : one ∈ srt g.keys := srt_mem.mpr h1k
    rw [z] at q
    cases q
  have e4 : hearOpenA g3 one = giveUp1 { g3 with near := nearSet g3.near one none } (some one) := look_up (g := { g3 with near := nearSet g3.near one none }) (m := wIn) b2 b1 g3n kn3
  have s4 : stepR g3 (.hear one lOpen) = some { giveUp1 { g3 with near := nearSet g3.near one none } (some one) with debts := [one] } := by
    show stepH g3 one lOpen = _
    unfold stepH
    obtain ⟨n', e'⟩ := b7 one (by rw [k2]; exact h1k)
    rw [if_neg (fun z => z h13), if_neg (by decide +kernel), if_pos rfl, if_neg (by rw [e']; exact fun z => by cases z), e4]
    unfold hearOpenB
    rw [if_pos ⟨rfl, b2⟩]
    show some { giveUp1 { g3 with near := nearSet g3.near one none } (some one) with debts := g3.debts ++ [one] } = _
    rw [b4]
    rfl
  -- the answers again
  obtain ⟨g5, r5, c1, c2, c3, c4, c5, c6, c7⟩ := ans_run ord (gone { giveUp1 { g3 with near := nearSet g3.near one none } (some one) with debts := [one] }) neO nO (fun h hh => by
      show h ∈ ({ g3 with near := nearSet g3.near one none } : G).keys
      rw [k3o, k3]
      exact kO h hh) (by
      show g3.knows.Perm ord
      rw [b6, k2, J.k]
      exact (srt_perm _).trans hp.symm) rfl (fun gg z1 z2 => by
    have z1 : gg.near = nearSet g3.near one none := z1
    have z2 : gg.wished = true := z2.trans b3
    have kg : gg.keys = g3.keys := by
      unfold G.keys
      rw [z1]
      exact set_keys _ _ _
    refine given_nothing z2 (fun x hx w n e => ?_) (h := one) (by rw [kg]; exact h13) (by rw [z1]; exact at3o)
    rw [z1] at e
    exact cl3 x (by rw [← kg]; exact hx) w n e)
  have c1 : g5.near = nearSet g3.near one none := c1
  have h15 : one ∈ g5.keys := by
    unfold G.keys
    rw [c1]
    have z : one ∈ ({ g3 with near := nearSet g3.near one none } : G).keys := by rw [k3o]; exact h13
    exact z
  have s6 : ∃ g6, stepR g5 (.hear one (lWord wd)) = some g6 := by
    refine ⟨hearWord g5 one wd, ?_⟩
    show stepH g5 one (lWord wd) = _
    unfold stepH
    have cw : lWord wd = lWord wClear ∨ lWord wd = lWord wBarred := hw.elim (fun z => .inl (by rw [z])) fun z => .inr (by rw [z])
    rw [if_neg (fun z => z h15), if_pos cw, if_neg (fun z => z.elim (fun z => z (by rw [c1]; exact at3o)) fun z => by rw [c5] at z; cases z)]
    rfl
  obtain ⟨g6, s6⟩ := s6
  refine ⟨gone g6, ?_⟩
  unfold roadW
  have q1 : runs g ([What.wish] ++ ord.map (What.hear · lHeard)) = some g2 := by
    show runs g (What.wish :: ord.map (What.hear · lHeard)) = _
    rw [runs_cons s1]
    exact r2
  have q2 : runs g ([What.wish] ++ ord.map (What.hear · lHeard) ++ ord.map (What.hear · (lWord wClear))) = some g3 := (runs_app q1).trans r3
  have q3 : runs g ([What.wish] ++ ord.map (What.hear · lHeard) ++ ord.map (What.hear · (lWord wClear)) ++ [What.hear one lOpen]) = some (gone { giveUp1 { g3 with near := nearSet g3.near one none } (some one) with debts := [one] }) := (runs_app q2).trans (runs_cons s4)
  have q4 := (runs_app (ys := ord.map (What.hear · lHeard)) q3).trans r5
  exact (runs_app q4).trans (runs_cons s6)
end Ha

/-! What the law's walk leans on. -/
namespace Ha
open PySem PySem.Spec PyProof.Rows L2
theorem gone_gone (g : G) : gone (gone g) = gone g := rfl
/-- a state that is kept by the steps -/
structure PT (t p : Nat) (g : G) : Prop where
  ok : Ok g
  fit : Fit t p 0 g
theorem ok_gone_of {g : G} (b : Ok g) : Ok (gone g) := { b with nG := (fun _ h => absurd h (by simp [gone])) }
theorem PT.pre {t p : Nat} {g : G} (h : PT t p g) (ht : t ≤ 1500) (hp : p ≤ 10000) : preS g := ⟨h.ok, t, ht, h.fit.mono (Nat.le_refl _) hp (Nat.le_refl _)⟩
theorem PT.step {t p : Nat} {g g' : G} {W : What} (h : PT t p g) (e : stepR g W = some g') (hn : ∀ x, W.house = some x → Nm x) : PT (t + 2) (p + 3) (gone g') :=
  ⟨ok_gone_of (ok_step h.ok hn e), { fit_step h.fit e with go := Nat.le_refl _ }⟩
theorem PT.mono {t p t' p' : Nat} {g : G} (h : PT t p g) (h1 : t ≤ t') (h2 : p ≤ p') : PT t' p' g := ⟨h.ok, h.fit.mono h1 h2 (Nat.le_refl _)⟩
theorem good_house {W : What} (h : GoodW W) : ∀ x, W.house = some x → Nm x := by
  cases W with
  | wish => exact fun _ e => nomatch e
  | unwish => exact fun _ e => nomatch e
  | join y =>
    intro x e
    cases e
    exact h
  | part y =>
    intro x e
    cases e
    exact h
  | hear y l =>
    intro x e
    cases e
    exact h.1
/-- the letters of a step -/
structure Sent (t : Nat) (g' : G) : Prop where
  ok : Ok g'
  len : g'.going.length ≤ 8 * (t + 2)
theorem PT.sent {t p : Nat} {g g' : G} {W : What} (h : PT t p g) (e : stepR g W = some g') (hn : ∀ x, W.house = some x → Nm x) : Sent t g' := ⟨ok_step h.ok hn e, (fit_step h.fit e).go⟩
theorem Sent.shaped {t : Nat} {g' : G} (s : Sent t g') : SeqAt.shaped (lettersD g'.going) = true ∧ (lettersD g'.going).canLay0 = true := letters_shaped s.ok.nG
/-! ### two lists of letters, shown -/
theorem weightAll_le {α : Type} {f : α → PyData} {n : Nat} : ∀ {l : List α}, (∀ x ∈ l, (f x).weight + 1 ≤ n) → PyData.weightAll (l.map f) ≤ l.length * n
  | [], _ => by simp [PyData.weightAll]
  | x :: r, h => by
    rw [List.map_cons]
    simp only [PyData.weightAll]
    have h1 := h x List.mem_cons_self
    have h2 := weightAll_le (l := r) fun y hy => h y (List.mem_cons_of_mem _ hy)
    rw [List.length_cons, Nat.add_mul]
    omega
theorem lD_weight {q : Str × List Str} (h1 : Nm q.1) (h2 : goodL q.2) : (lD q).weight + 1 ≤ 30 := by
  have a : (tD q.2).weight ≤ 12 := by
    rcases h2 with e | e | e | e | e <;> rw [e] <;> decide +kernel
  have b : q.1.cps.size ≤ 8 := by
    have z := h1.2.1
    rw [Array.length_toList] at z
    exact z
  unfold lD
  simp only [PyData.weight, PyData.weightAll]
  omega
theorem letters_weight {l : List (Str × List Str)} (h : ∀ q ∈ l, Nm q.1 ∧ goodL q.2) : (lettersD l).weight ≤ l.length * 30 := by
  unfold lettersD
  simp only [PyData.weight]
  exact weightAll_le fun q hq => lD_weight (h q hq).1 (h q hq).2
theorem showAll {α : Type} {f : α → PyData} : ∀ {l : List α}, (∀ x ∈ l, (f x).showable = true) → PyData.showableAll (l.map f) = true
  | [], _ => by simp [PyData.showableAll]
  | x :: r, h => by
    rw [List.map_cons]
    simp only [PyData.showableAll]
    rw [h x List.mem_cons_self, showAll fun y hy => h y (List.mem_cons_of_mem _ hy)]
    rfl
theorem shortAll {α : Type} {f : α → PyData} : ∀ {l : List α}, (∀ x ∈ l, (f x).intsShort 13 = true) → PyData.intsShortAll 13 (l.map f) = true
  | [], _ => by simp [PyData.intsShortAll]
  | x :: r, h => by
    rw [List.map_cons]
    simp only [PyData.intsShortAll]
    rw [h x List.mem_cons_self, shortAll fun y hy => h y (List.mem_cons_of_mem _ hy)]
    rfl
theorem lD_show (q : Str × List Str) : (lD q).showable = true ∧ (lD q).intsShort 13 = true := by
  have a : PyData.showableAll (q.2.map PyData.str) = true := showAll fun x _ => by simp [PyData.showable]
  have b : PyData.intsShortAll 13 (q.2.map PyData.str) = true := shortAll fun x _ => by simp [PyData.intsShort]
  unfold lD tD
  simp only [PyData.showable, PyData.showableAll, PyData.intsShort, PyData.intsShortAll]
  rw [a, b]
  exact ⟨rfl, rfl⟩
theorem two_letters {l : List (Str × List Str)} (h : ∀ q ∈ l, Nm q.1 ∧ goodL q.2) (hl : l.length ≤ 12100) :
    (PyData.list [lettersD l, lettersD l]).showable = true ∧ PyData.layable0 (.list [lettersD l, lettersD l]) = true ∧ (PyData.list [lettersD l, lettersD l]).intsShort 13 = true := by
  obtain ⟨s1, s2⟩ := letters_shaped h
  have w := letters_weight h
  have d := SeqAt.depth_of_shaped s1
  have dl : (lettersD l).depth ≤ 3 := by
    unfold lettersD
    simp only [PyData.depth]
    have := depthAll_le (n := 2) fun q hq => (lD_can (h q hq).1 (h q hq).2).2
    omega
  have a : (lettersD l).showable = true := by
    unfold lettersD
    simp only [PyData.showable]
    exact showAll fun q _ => (lD_show q).1
  have b : (lettersD l).intsShort 13 = true := by
    unfold lettersD
    simp only [PyData.intsShort]
    exact shortAll fun q _ => (lD_show q).2
  refine ⟨?_, ?_, ?_⟩
  · simp only [PyData.showable, PyData.showableAll]
    rw [a]
    rfl
  · have c1 : (PyData.list [lettersD l, lettersD l]).canLay0 = true := by
      simp only [PyData.canLay0, PyData.canLayAll0]
      rw [s2]
      rfl
    have c2 : (PyData.list [lettersD l, lettersD l]).depth ≤ 64 := by
      simp only [PyData.depth, PyData.depthAll]
      omega
    have c3 : (PyData.list [lettersD l, lettersD l]).weight ≤ 2 ^ 20 := by
      simp only [PyData.weight, PyData.weightAll]
      omega
    show (PyData.canLay0 _ && decide (PyData.depth _ ≤ 64) && decide (PyData.weight _ ≤ 2 ^ 20)) = true
    rw [c1, decide_eq_true c2, decide_eq_true c3]
    rfl
  · simp only [PyData.intsShort, PyData.intsShortAll]
    rw [b]
    rfl
theorem two_none : (PyData.list [.none, .none]).showable = true ∧ PyData.layable0 (.list [.none, .none]) = true ∧ (PyData.list [.none, .none]).intsShort 13 = true := ⟨by decide +kernel, by decide +kernel, by decide +kernel⟩
/-! ### a list that none of the three holds -/
structure Out (H : Hp) (D : Addr) (u : HO) (a m b : GA) (pt : Addr) : Prop where
  at' : H D = some u
  a : D ∉ a.ft
  m : D ∉ m.ft
  b : D ∉ b.ft
  p : D ≠ pt
section
variable {K : PySem.W.Frag} {C : Addr} {H H' : Hp} {D pt : Addr} {u : HO} {a m b a' : GA}
theorem Out.same (O : Out H D u a m b pt) (s : Same H H') : Out H' D u a m b pt := { O with at' := s _ _ O.at' }
theorem Out.mvA (O : Out H D u a m b pt) (f : Frm a.ft H a'.ft H') : Out H' D u a' m b pt := { O with at' := f.keep _ _ O.at' O.a, a := f.off O.at' O.a }
theorem Out.mvM (O : Out H D u a m b pt) (f : Frm m.ft H a'.ft H') : Out H' D u a a' b pt := { O with at' := f.keep _ _ O.at' O.m, m := f.off O.at' O.m }
theorem Out.mvB (O : Out H D u a m b pt) (f : Frm b.ft H a'.ft H') : Out H' D u a m a' pt := { O with at' := f.keep _ _ O.at' O.b, b := f.off O.at' O.b }
theorem Out.mvP (O : Out H D u a m b pt) (f : Frm [pt] H [pt] H') : Out H' D u a m b pt := { O with at' := f.keep _ _ O.at' (by simpa using O.p) }
/-- letters at an address out of a footprint stay -/
theorem lst_keep {F F' : List Addr} {r : Addr} {l : List (Str × List Str)} (h : LstR (goR K) H r l) (f : Frm F H F' H') (hr : r ∉ F) : LstR (goR K) H' r l := by
  obtain ⟨xs, e, p⟩ := h
  exact ⟨xs, f.keep _ _ e hr, Paired.mapP p fun _ _ q => q.stay f.tup⟩
theorem lst_same {r : Addr} {l : List (Str × List Str)} (h : LstR (goR K) H r l) (s : Same H H') : LstR (goR K) H' r l := by
  obtain ⟨xs, e, p⟩ := h
  exact ⟨xs, s _ _ e, Paired.mapP p fun _ _ q => q.stay fun b ys e => s _ _ e⟩
theorem make_frm {x dx : Addr} {o o' : HO} {F : List Addr} (hx : H x = none) (hd : H dx = none) (f : Frm [x] (upd (upd H dx o) x o') F H') : Frm [] H F H' := by
  have keep : ∀ c v, H c = some v → c ≠ x → (upd (upd H dx o) x o') c = some v := fun c v e n => by
    rw [upd_ne n, upd_ne (ne_of_none e hd)]
    exact e
  refine ⟨fun c xs e => f.tup c xs (keep c _ e (ne_of_none e hx)), fun c v e _ => f.keep c v (keep c v e (ne_of_none e hx)) (by simpa using ne_of_none e hx), fun c hc => .inr ?_⟩
  rcases f.sub c hc with z | z
  · rw [List.mem_singleton.mp z]
    exact hx
  · cases e : H c with
    | none => rfl
    | some v =>
      rw [keep c v e (ne_of_none e hx)] at z
      cases z
end
theorem road_good {ord : List Str} {one wd : Str} (h : ∀ x ∈ ord, Nm x) (h1 : one ∈ ord) (hw : wd = wClear ∨ wd = wBarred) : ∀ W ∈ roadW ord one wd, GoodW W := by
  intro W hW
  unfold roadW at hW
  have l1 : L7 lHeard := .inr (.inl rfl)
  have l2 : L7 (lWord wClear) := .inr (.inr (.inr (.inr (.inl rfl))))
  have l3 : L7 (lWord wd) := hw.elim (fun e => by rw [e]; exact l2) fun e => by rw [e]; exact .inr (.inr (.inr (.inr (.inr (.inl rfl)))))
  simp only [List.mem_append, List.mem_map, List.mem_singleton] at hW
  rcases hW with ((((hW | ⟨x, hx, rfl⟩) | ⟨x, hx, rfl⟩) | hW) | ⟨x, hx, rfl⟩) | hW
  · rw [hW]; exact trivial
  · exact ⟨h x hx, l1⟩
  · exact ⟨h x hx, l2⟩
  · rw [hW]; exact ⟨h one h1, .inl rfl⟩
  · exact ⟨h x hx, l1⟩
  · rw [hW]; exact ⟨h one h1, l3⟩
theorem road_len (ord : List Str) (one wd : Str) : (roadW ord one wd).length = 3 * ord.length + 3 := by
  unfold roadW
  simp only [List.length_append, List.length_map, List.length_cons, List.length_nil]
  omega
/-- the slices of the names -/
theorem cut1 (l : List Str) : cutV (l.map V.str) (some 1) none = (l.drop 1).map V.str := by
  have e1 : HT.sIx (l.map V.str).length 0 (some 1) = min 1 l.length := by
    rw [List.length_map]
    rfl
  have e2 : HT.sIx (l.map V.str).length (l.map V.str).length none = l.length := by
    rw [List.length_map]
    rfl
  unfold cutV
  rw [e1, e2, List.map_drop, List.take_of_length_le (by rw [List.length_drop, List.length_map]; omega)]
  by_cases c : 1 ≤ l.length
  · rw [Nat.min_eq_left c]
  · have : l = [] := List.eq_nil_of_length_eq_zero (by omega)
    subst this
    rfl
theorem cut90 {l : List Str} (hl : l.length = 101) : cutV (l.map V.str) (some 1) (some 90) = ((l.drop 1).take 89).map V.str := by
  have e1 : HT.sIx (l.map V.str).length 0 (some 1) = 1 := by
    rw [List.length_map, hl]
    rfl
  have e2 : HT.sIx (l.map V.str).length (l.map V.str).length (some 90) = 90 := by
    rw [List.length_map, hl]
    rfl
  unfold cutV
  rw [e1, e2, List.map_take, List.map_drop]
end Ha

/-! Whom a guest awaits are houses of its own. -/
namespace Ha
open PySem PySem.Spec PyProof.Rows L2
/-- told and awaited houses are its own, or among ex -/
structure KW (ex : List Str) (g : G) : Prop where
  k : ∀ h ∈ g.knows, h ∈ g.keys
  w : ∀ h ∈ g.waits, h ∈ g.keys ∨ h ∈ ex
theorem kw_settle {ex : List Str} {g : G} {w : Str} (h : KW ex g) : KW ex (settle g w) := ⟨fun x hx => srt_mem.mp (show x ∈ srt g.keys from hx), h.w⟩
theorem kw_lookN {ex : List Str} {g : G} (h : KW ex g) : KW ex (lookN g) := by
  unfold lookN
  split
  · exact kw_settle h
  · exact h
theorem near_lookN (g : G) : (lookN g).near = g.near := by
  unfold lookN
  split <;> rfl
theorem kw_close {ex : List Str} {g : G} (h : KW ex g) : KW ex (close g) := by
  have h1 : KW ex (lookN { g with opened := false, source := none }) := kw_lookN ⟨h.k, h.w⟩
  unfold close close1 close2
  split
  · exact ⟨h1.k, h1.w⟩
  · exact ⟨h1.k, h1.w⟩
theorem near_close (g : G) : (close g).near = g.near := by
  have e : (lookN { g with opened := false, source := none }).near = g.near := near_lookN _
  unfold close close1 close2
  split
  · exact e
  · exact e
theorem kw_giveUp {ex : List Str} {g : G} {c : Option Str} (h : KW ex g) : KW ex (giveUp g c) := by
  have h1 : KW ex (giveUp1 g c) := ⟨fun x hx => absurd hx (by simp [giveUp1, tellAll]), fun x hx => .inl (h.k x hx)⟩
  unfold giveUp
  split
  · exact kw_close h1
  · exact h1
theorem near_giveUp (g : G) (c : Option Str) : (giveUp g c).near = g.near := by
  unfold giveUp
  split
  · exact near_close _
  · rfl
theorem kw_look {ex : List Str} {g : G} {c : Option Str} (h : KW ex g) : KW ex (look g c) := by
  unfold look
  split
  · exact h
  · split
    · exact kw_lookN h
    · split
      · exact h
      · exact kw_giveUp h
theorem near_look (g : G) (c : Option Str) : (look g c).near = g.near := by
  unfold look
  split
  · rfl
  · split
    · exact near_lookN g
    · split
      · rfl
      · exact near_giveUp g c
theorem kw_answered {g : G} {h : Str} (k : KW [h] g) : KW [] (answered g h) := by
  have h1 : KW [] { g with waits := g.waits.filter fun x => decide (x ≠ h) } := ⟨k.k, fun x hx => by
    obtain ⟨hx1, hx2⟩ := List.mem_filter.mp hx
    have ne : x ≠ h := of_decide_eq_true hx2
    rcases k.w x hx1 with z | z
    · exact .inl z
    · exact absurd (List.mem_singleton.mp z) ne⟩
  unfold answered
  split
  · exact kw_close h1
  · exact h1
theorem KW.mono {ex : List Str} {g : G} (k : KW [] g) : KW ex g := ⟨k.k, fun h hh => (k.w h hh).elim .inl fun z => by cases z⟩
theorem kw_step {g g' : G} {W : What} (k : KW [] g) (e : stepR g W = some g') : KW [] (gone g') := by
  have gn : ∀ {x : G}, KW [] x → KW [] (gone x) := fun h => ⟨h.k, h.w⟩
  refine gn ?_
  cases W with
  | wish =>
    have e : (if g.wished = true then none else some (look { g with wished := true } none)) = some g' := e
    split at e
    · cases e
    · cases e
      exact kw_look (g := { g with wished := true }) ⟨k.k, k.w⟩
  | unwish =>
    have e : (if g.wished = true then some (look { g with wished := false } none) else none) = some g' := e
    split at e
    · cases e
      exact kw_look (g := { g with wished := false }) ⟨k.k, k.w⟩
    · cases e
  | join h =>
    have e : (if h = g.own ∨ h ∈ g.keys then none else some (joinB (joinA g h) h)) = some g' := e
    split at e
    · cases e
    · cases e
      have up : ∀ x ∈ g.keys, x ∈ ({ g with near := g.near ++ [(h, none)] } : G).keys := fun x hx => by
        show x ∈ (g.near ++ [(h, none)]).map Prod.fst
        rw [List.map_append]
        exact List.mem_append_left _ hx
      have k1 : KW [] (joinA g h) := kw_look (g := { g with near := g.near ++ [(h, none)] }) ⟨fun x hx => up x (k.k x hx), fun x hx => (k.w x hx).imp (up x) id⟩
      have hk : h ∈ (joinA g h).keys := by
        unfold G.keys
        rw [show (joinA g h).near = g.near ++ [(h, none)] from near_look _ _, List.map_append]
        exact List.mem_append_right _ List.mem_cons_self
      unfold joinB
      split
      · exact k1
      · split
        · exact k1
        · refine ⟨fun x hx => ?_, k1.w⟩
          have hx' : x ∈ srt ((joinA g h).knows ++ [h]) := hx
          rcases List.mem_append.mp (srt_mem.mp hx') with z | z
          · exact k1.k x z
          · rw [List.mem_singleton.mp z]
            exact hk
  | part h =>
    have e : (if h ∈ g.keys then some (partB (look (partA g h) none) h) else none) = some g' := e
    split at e
    · cases e
      have dr : ∀ x ∈ g.keys, x ≠ h → x ∈ (partA g h).keys := fun x hx ne => by
        show x ∈ (nearDrop g.near h).map Prod.fst
        rw [drop_keys]
        exact List.mem_filter.mpr ⟨hx, decide_eq_true ne⟩
      have k1 : KW [h] (look (partA g h) none) := kw_look ⟨fun x hx => by
          obtain ⟨y1, y2⟩ := List.mem_filter.mp (show x ∈ g.knows.filter fun x => decide (x ≠ h) from hx)
          exact dr x (k.k x y1) (of_decide_eq_true y2), fun x hx => by
          have hx : x ∈ g.waits := hx
          by_cases c : x = h
          · exact .inr (List.mem_singleton.mpr c)
          · rcases k.w x hx with z | z
            · exact .inl (dr x z c)
            · cases z⟩
      unfold partB
      split
      · exact kw_answered k1
      · rename_i nw
        refine ⟨k1.k, fun x hx => ?_⟩
        rcases k1.w x hx with z | z
        · exact .inl z
        · rw [List.mem_singleton.mp z] at hx
          exact absurd hx nw
    · cases e
  | hear h l =>
    have e : stepH g h l = some g' := e
    have set_k : ∀ {t : Option (Str × Nat)} {n : Nat}, KW [] { g with ears := n, near := nearSet g.near h t } := fun {t n} => by
      have ek : ({ g with ears := n, near := nearSet g.near h t } : G).keys = g.keys := set_keys _ _ _
      refine ⟨fun x hx => ?_, fun x hx => ?_⟩
      · rw [ek]
        exact k.k x hx
      · rw [ek]
        exact k.w x hx
    unfold stepH at e
    split at e
    · cases e
    · split at e
      · split at e
        · cases e
        · cases e
          exact kw_look set_k
      · split at e
        · split at e
          · cases e
          · cases e
            have k1 : KW [] (hearOpenA g h) := kw_look (g := { g with near := nearSet g.near h none }) (set_k (n := g.ears))
            unfold hearOpenB
            split
            · exact ⟨k1.k, k1.w⟩
            · exact ⟨k1.k, k1.w⟩
        · split at e
          · split at e
            · cases e
              exact kw_answered k.mono
            · cases e
          · split at e
            · split at e
              · cases e
              · cases e
                unfold hearChair
                split
                · exact ⟨k.k, k.w⟩
                · exact ⟨k.k, k.w⟩
            · cases e
theorem kw_g0 (n : Str) : KW [] (g0 n) := by
  have e : g0 n = settle (gS n) wOut := by
    unfold g0
    rw [look_plain rfl rfl]
    exact lookN_some (given_out rfl)
  rw [e]
  exact kw_settle ⟨fun x hx => absurd hx (by simp [gS]), fun x hx => absurd hx (by simp [gS])⟩
/-- an answer, counted closely -/
theorem PT.answer {t p : Nat} {g : G} {h : Str} (s : PT t p g) (hw : h ∈ g.waits) : PT t (p + 1) (gone (answered g h)) :=
  ⟨ok_gone_of (ok_answered s.ok hw), { fit_answered s.fit with go := Nat.le_refl _ }⟩
theorem answered_waits {g : G} {h : Str} (hw : h ∈ g.waits) : (answered g h).waits.length < g.waits.length := by
  have l : (g.waits.filter fun x => decide (x ≠ h)).length < g.waits.length := by
    have z := List.length_filter_lt_length_iff_exists (p := fun x => decide (x ≠ h)) (l := g.waits)
    exact z.mpr ⟨h, hw, by simp⟩
  have wl : ∀ x : G, (lookN x).waits = x.waits := fun x => by
    unfold lookN
    split <;> rfl
  unfold answered
  split
  · have e : (close { g with waits := g.waits.filter fun x => decide (x ≠ h) }).waits = g.waits.filter fun x => decide (x ≠ h) := by
      have e1 := wl { ({ g with waits := g.waits.filter fun x => decide (x ≠ h) } : G) with opened := false, source := none }
      unfold close close1 close2
      split
      · exact e1
      · exact e1
    rw [e]
    exact l
  · exact l
end Ha

/-! The law. -/
namespace Ha
open PySem PySem.Spec PyProof.Rows L2
def BF (g : G) : Prop := Base g ∧ Fit 6000 60000 60000 g
def spLaw (K : PySem.W.Frag) : Sp := fun vs H Q _ => ∃ (sa : Addr) (ns : List Int), vs = [.ref sa] ∧ SqL K H sa (ns.map V.int) ∧ ns.length ≤ 63 ∧ ∀ H', Q (.bl true) H'
section
variable {P : Program} {w : World} {K : PySem.W.Frag} {mg : Str → Option Value} {base : Heap}
theorem fn_law (T : Tx K mg) : FnG P w K mg base 10 T.d_law.f T.d_law.fd ["_law_script"] (spLaw K) := by
  have GPot : FnOk P w K mg base CX0 1 T.d_l_pot.f T.d_l_pot.fd ["_law_script", "_law_k"] (spPot K) := fn_pot T
  have GDip : FnOk P w K mg base CX0 1 T.d_l_dip.f T.d_l_dip.fd ["_law_pot_here", "_law_many"] spDip := fn_dip T
  have GHou : FnOk P w K mg base CX0 3 T.d_l_houses.f T.d_l_houses.fd ["_law_pot_here"] spHouses := fn_lhouses T
  have GIni : FnOk P w K mg base CX0 7 T.d_init.f T.d_init.fd ["self", "name"] (spInit K T.C) := fn_init T
  have GNew : FnOk P w K mg base CX0 5 T.d_l_new.f T.d_l_new.fd ["_law_name"] (spLNew K) := fn_lnew T
  have GDid : FnOk P w K mg base CX0 7 T.d_l_did.f T.d_l_did.fd ["_law_mine", "_law_what_here"] (spLDid K) := fn_ldid T
  have GDon : FnOk P w K mg base CX0 9 T.d_l_done.f T.d_l_done.fd ["_law_guest", "_law_what_here"] (spDone K T.C) := fn_done T
  have GWha : FnOk P w K mg base CX0 4 T.d_l_what.f T.d_l_what.fd ["_law_pot_here", "_law_guest", "_law_houses_here"] (spWhat K T.C) := fn_what T
  have GRoa : FnOk P w K mg base CX0 2 T.d_l_road.f T.d_l_road.fd ["_law_pot_here", "_law_houses_here"] spRoad := fn_road T
  have GAli : FnG P w K mg base 4 T.d_l_alike.f T.d_l_alike.fd ["_law_guest", "_law_mine"] (spAlike K T.C) := fn_alike T
  have GJoi : FnOk P w K mg base (L2.CX P w) 7 T.d_join.f T.d_join.fd ["self", "house"] (spJoin K T.C T.eTwice.C) := fn_join T
  have GHea : FnOk P w K mg base (L2.CX P w) 8 T.d_hear.f T.d_hear.fd ["self", "house", "letter"] (spHear K T.C T.eNoLetter.C) := fn_hear T
  have GAwa : FnOk P w K mg base CX0 1 T.d_awaited.f T.d_awaited.fd ["self"] (spL K T.C fun g => srt g.waits) := fn_awaited T
  refine T.d_law.okG sc_law (fun vs H Q E h => ?_) (fun cdv A outer s H vs Q hgd hr h => ?_)
  · obtain ⟨sa, ns, rfl, _⟩ := h
    rfl
  · obtain ⟨sa, ns, rfl, hS, hlen, k⟩ := h
    have nd := sc_law.nd
    have hr1 : Room 1 _ := hr.mono (by decide)
    have hr2 : Room 2 _ := hr.mono (by decide)
    have hr3 : Room 3 _ := hr.mono (by decide)
    have hr4 : Room 4 _ := hr.mono (by decide)
    have hr5 : Room 5 _ := hr.mono (by decide)
    have hr7 : Room 7 _ := hr.mono (by decide)
    have hr8 : Room 8 _ := hr.mono (by decide)
    have hu66 : (A.deeper (envOfC "law" (defScope s_law) s.heap.objs.size T.d_law.f cdv)).units + 66 < cLine := by have := hr.un; omega
    have hg2 : (A.deeper (envOfC "law" (defScope s_law) s.heap.objs.size T.d_law.f cdv)).guards = some [] := hgd
    refine ⟨_, pss_cons (ps_for PassesOwn.never rfl (pi_range1 (by rfl) T.b_range (pa_cons (pe_callB (call_max2 rfl) (by rfl) T.b_max (by decide +kernel) (pa_cons pe_int (pa_cons (pe_callB (call_min2 rfl) (by rfl) T.b_min (by decide +kernel) (pa_cons pe_int (pa_cons (pe_op op_add (pe_callB call_len_seq (by rfl) T.b_len PySem.boot_len (pa_cons (pv 0) pa_nil)) pe_int) pa_nil))) pa_nil))) pa_nil)) (pg_name (i := 1) nd rfl (.inl rfl))
        (pss_cons (ps_set (i := 2) nd rfl (.inl rfl) (pe_call GPot hr1 (by rfl) T.g_l_pot T.d_l_pot.F.kp T.d_l_pot.b .nil pass0 (pa_cons (pv 0) (pa_cons (pv 1) pa_nil))))
        (pss_cons (ps_set (i := 3) nd rfl (.inl rfl) (pe_call GHou hr3 (by rfl) T.g_l_houses T.d_l_houses.F.kp T.d_l_houses.b .nil pass0 (pa_cons (pv 2) pa_nil)))
        (pss_cons (ps_par (i := 4) (j := 5) rfl nd rfl rfl (by decide) rfl rfl (pa_cons (pe_make T.mkC GIni hr8 (by rfl) T.gC T.d_init.b .nil pass0 (pa_cons (pe_ix ix_list (pv 3) pe_int (fun _ _ => rfl)) pa_nil)) (pa_cons (pe_make T.mkC GIni hr8 (by rfl) T.gC T.d_init.b .nil pass0 (pa_cons (pe_ix ix_list (pv 3) pe_int (fun _ _ => rfl)) pa_nil)) pa_nil)) (by rfl))
        (pss_cons (ps_set (i := 6) nd rfl (.inl rfl) (pe_call GNew hr5 (by rfl) T.g_l_new T.d_l_new.F.kp T.d_l_new.b .nil pass0 (pa_cons (pe_ix ix_list (pv 3) pe_int (fun _ _ => rfl)) pa_nil)))
        (pss_cons (ps_if (pt_cmpR op_gt (pe_callB call_len_seq (by rfl) T.b_len PySem.boot_len (pa_cons (pv 3) pa_nil)) pe_int (nomark _))
          (pss_cons (ps_for PassesOwn.never rfl (pi_list (pe_slice sl_list (pv 3) (po_some pe_int) (po_some pe_int))) (pg_name (i := 7) nd rfl (.inl rfl))
            (pss_cons (ps_set (i := 8) nd rfl (.inl rfl) (pe_meth (pv 4) T.cl T.m_join GJoi hr7 T.d_join.b .nil passL (pa_cons (pv 7) pa_nil)))
            (pss_one (ps_if (PW.pt (pw_or (pt_cmpR (op_neD hr.units) (pe_call GDid hr7 (by rfl) T.g_l_did T.d_l_did.F.kp T.d_l_did.b .nil pass0 (pa_cons (pv 6) (pa_cons (pe_tup (pa_cons pe_str (pa_cons (pv 7) pa_nil))) pa_nil))) (pv 8) (nomark _))
                (pw_or1 (pt_cmp (pc_isN (pe_meth (pv 5) T.cl T.m_join GJoi hr7 T.d_join.b .nil passL (pa_cons (pv 7) pa_nil))))))) (pss_one (ps_ret pe_bl)) pss_nil))))
          (pss_cons (ps_for PassesOwn.never rfl (pi_list (pe_call GRoa hr2 (by rfl) T.g_l_road T.d_l_road.F.kp T.d_l_road.b .nil pass0 (pa_cons (pv 2) (pa_cons (pe_slice sl_list (pv 3) (po_some pe_int) (po_some pe_int)) pa_nil)))) (pg_name (i := 9) nd rfl (.inl rfl))
            (pss_cons (ps_set (i := 10) nd rfl (.inl rfl) (pe_call GDid hr7 (by rfl) T.g_l_did T.d_l_did.F.kp T.d_l_did.b .nil pass0 (pa_cons (pv 6) (pa_cons (pv 9) pa_nil))))
            (pss_cons (ps_if (PW.pt (pw_or (pt_cmp (pc_isN (pv 10))) (pw_or1 (pt_cmpR (op_neD hr.units) (pe_call GDon hr (by rfl) T.g_l_done T.d_l_done.F.kp T.d_l_done.b .nil pass0 (pa_cons (pv 4) (pa_cons (pv 9) pa_nil))) (pv 10) (nomark _))))) (pss_one (ps_ret pe_bl)) pss_nil)
            (pss_one (ps_if (pt_cmpR (op_neD hr.units) (pe_call GDon hr (by rfl) T.g_l_done T.d_l_done.F.kp T.d_l_done.b .nil pass0 (pa_cons (pv 5) (pa_cons (pv 9) pa_nil))) (pv 10) (nomark _)) (pss_one (ps_ret pe_bl)) pss_nil)))))
          (pss_one (ps_if (pt_not (pt_val (pe_callG GAli hg2 hr4 (by rfl) T.g_l_alike T.d_l_alike.F.kp T.d_l_alike.b (pa_cons (pv 4) (pa_cons (pv 6) pa_nil))))) (pss_one (ps_ret pe_bl)) pss_nil)))) pss_nil)
        (pss_cons (ps_for PassesOwn.never rfl (pi_range1 (by rfl) T.b_range (pa_cons (pe_call GDip hr1 (by rfl) T.g_l_dip T.d_l_dip.F.kp T.d_l_dip.b .nil pass0 (pa_cons (pv 2) (pa_cons pe_int pa_nil))) pa_nil)) (pg_name (i := 11) nd rfl (.inl rfl))
          (pss_cons (ps_set (i := 9) nd rfl (.inl rfl) (pe_call GWha hr4 (by rfl) T.g_l_what T.d_l_what.F.kp T.d_l_what.b .nil pass0 (pa_cons (pv 2) (pa_cons (pv 4) (pa_cons (pe_slice sl_list (pv 3) (po_some pe_int) po_none) pa_nil)))))
          (pss_cons (ps_set (i := 10) nd rfl (.inl rfl) (pe_call GDid hr7 (by rfl) T.g_l_did T.d_l_did.F.kp T.d_l_did.b .nil pass0 (pa_cons (pv 6) (pa_cons (pv 9) pa_nil))))
          (pss_cons (ps_if (pt_cmpR op_ne (pe_callB (cr_repr hg2 hu66) (by rfl) T.b_repr (by decide +kernel) (pa_cons (pe_lst (pa_cons (pe_call GDon hr (by rfl) T.g_l_done T.d_l_done.F.kp T.d_l_done.b .nil pass0 (pa_cons (pv 4) (pa_cons (pv 9) pa_nil))) (pa_cons (pe_call GDon hr (by rfl) T.g_l_done T.d_l_done.F.kp T.d_l_done.b .nil pass0 (pa_cons (pv 5) (pa_cons (pv 9) pa_nil))) pa_nil))) pa_nil))
              (pe_callB (cr_repr hg2 hu66) (by rfl) T.b_repr (by decide +kernel) (pa_cons (pe_lst (pa_cons (pv 10) (pa_cons (pv 10) pa_nil))) pa_nil)) (nomark _)) (pss_one (ps_ret pe_bl)) pss_nil)
          (pss_one (ps_if (pt_not (pt_val (pe_callG GAli hg2 hr4 (by rfl) T.g_l_alike T.d_l_alike.F.kp T.d_l_alike.b (pa_cons (pv 4) (pa_cons (pv 6) pa_nil))))) (pss_one (ps_ret pe_bl)) pss_nil))))))
        (pss_one (ps_while PassesOwn.never (pt_cmpR (op_neD hr.units) (pe_meth0 (pv 4) T.cl T.m_awaited GAwa hr1 T.d_awaited.b .nil pass0) (pe_lst pa_nil) (nomark _))
          (pss_cons (ps_set (i := 9) nd rfl (.inl rfl) (pe_tup (pa_cons pe_str (pa_cons (pe_ix ix_list (pe_meth0 (pv 4) T.cl T.m_awaited GAwa hr1 T.d_awaited.b .nil pass0) pe_int (fun _ _ => rfl)) (pa_cons (pe_tup (pa_cons pe_str pa_nil)) pa_nil)))))
          (pss_cons (ps_set (i := 8) nd rfl (.inl rfl) (pe_meth (pv 4) T.cl T.m_hear GHea hr8 T.d_hear.b .nil passL (pa_cons (pe_ix ix_tup (pv 9) pe_int (fun _ _ => rfl)) (pa_cons (pe_ix ix_tup (pv 9) pe_int (fun _ _ => rfl)) pa_nil))))
          (pss_one (ps_if (PW.pt (pw_or (pt_cmpR (op_neD hr.units) (pv 8) (pe_call GDid hr7 (by rfl) T.g_l_did T.d_l_did.F.kp T.d_l_did.b .nil pass0 (pa_cons (pv 6) (pa_cons (pv 9) pa_nil))) (nomark _))
              (pw_or1 (pt_not (pt_val (pe_callG GAli hg2 hr4 (by rfl) T.g_l_alike T.d_l_alike.F.kp T.d_l_alike.b (pa_cons (pv 4) (pa_cons (pv 6) pa_nil)))))))) (pss_one (ps_ret pe_bl)) pss_nil)))))))))))))
      (pss_one (ps_ret pe_bl)), ?_⟩
    have hJ : ∀ L : Nat, L ≤ 63 → (1 : Int) ≤ (if (if ((L : Int) + 1) < 5 then ((L : Int) + 1) else 5) > 1 then (if ((L : Int) + 1) < 5 then ((L : Int) + 1) else 5) else 1) ∧ (if (if ((L : Int) + 1) < 5 then ((L : Int) + 1) else 5) > 1 then (if ((L : Int) + 1) < 5 then ((L : Int) + 1) else 5) else 1) ≤ 5 := by
      intro L _
      split <;> split <;> omega
    have hJ1 := hJ (ns.map V.int).length (by rw [List.length_map]; exact hlen)
    refine ⟨_, rfl, sa, _, rfl, .inl hS, _, _, rfl, rfl, _, _, rfl, _, _, rfl, _, rfl, ?_⟩
    generalize (if (if (((ns.map V.int).length : Nat) : Int) + 1 < 5 then (((ns.map V.int).length : Nat) : Int) + 1 else 5) > 1 then (if (((ns.map V.int).length : Nat) : Int) + 1 < 5 then (((ns.map V.int).length : Nat) : Int) + 1 else 5) else 1) = J at hJ1 ⊢
    refine ⟨by omega, by omega, for_range (lo := 0) (n := J.toNat) (fun i σ H' => ∃ v1 v2 v3 v4 v5 v6 v7 v8 v9 v10 v11, σ = [some (.ref sa), v1, v2, v3, v4, v5, v6, v7, v8, v9, v10, v11] ∧ SqL K H' sa (ns.map V.int))
      ⟨_, _, _, _, _, _, _, _, _, _, _, rfl, hS⟩ ?_ ?_⟩
    rotate_left
    · rintro σ H' ⟨v1, v2, v3, v4, v5, v6, v7, v8, v9, v10, v11, rfl, _⟩
      exact k H'
    rintro kk σ H0 hi ⟨v1, v2, v3, v4, v5, v6, v7, v8, v9, v10, v11, rfl, hS0⟩
    -- the pot, the names
    refine ⟨_, rfl, _, rfl, sa, ns, kk, (by show [V.ref sa, V.int (0 + (kk : Int))] = _; rw [Int.zero_add]), hS0, hlen, by omega, fun pt H1 hpt0 hp1 s1 => ?_⟩
    refine ⟨_, rfl, pt, 0, rfl, hp1, by omega, fun nm nl H2 hHL hnl0 hnl hp2 f2 => ?_⟩
    obtain ⟨hL2, hL10, hnd, hNm⟩ := hHL
    have k02 : ∀ c u, H0 c = some u → H2 c = some u := fun c u e => f2.keep _ _ (s1 _ _ e) (by
      intro z
      rw [List.mem_singleton.mp z, hpt0] at e
      cases e)
    obtain ⟨n0, hks, enm⟩ : ∃ n0 ks, nm = n0 :: ks := by
      cases nm with
      | nil => exact absurd hL2 (by show ¬ 2 ≤ 0; omega)
      | cons x r => exact ⟨x, r, rfl⟩
    have hN0 : Nm n0 := hNm n0 (by rw [enm]; exact List.mem_cons_self)
    have at0 : atI (nm.map V.str) 0 = some (V.str n0) := by
      have z : atI (nm.map V.str) ((0 : Nat) : Int) = some (V.str n0) := atI_nat (by rw [enm]; rfl)
      exact z
    -- the guest and its mate
    refine ⟨_, rfl, nl, _, _, .str n0, rfl, rfl, SqL.of hnl, at0, ?_⟩
    intro x dx hx hdx hne
    refine ⟨x, dx, n0, rfl, hN0, upd_same, fun a H3 ea Ga fa => ⟨rfl, ?_⟩⟩
    have fa2 := make_frm hx hdx fa
    have hnl3 := fa2.keep _ _ hnl (by simp)
    refine ⟨_, rfl, nl, _, _, .str n0, rfl, rfl, SqL.of hnl3, at0, ?_⟩
    intro y dy hy hdy hney
    refine ⟨y, dy, n0, rfl, hN0, upd_same, fun m H4 em Gm fm => ⟨rfl, _, _, rfl, ?_⟩⟩
    have fm3 := make_frm hy hdy fm
    have hnl4 := fm3.keep _ _ hnl3 (by simp)
    subst ea
    subst em
    -- the law's own
    refine ⟨_, rfl, nl, _, _, .str n0, rfl, rfl, SqL.of hnl4, at0, n0, rfl, fun b H5 Mb fb => ?_⟩
    have n3 : ∀ c, H3 c = none → H2 c = none := fun c h => frm_free fa2 h (by simp)
    have n4 : ∀ c, H4 c = none → H2 c = none := fun c h => n3 c (frm_free fm3 h (by simp))
    have noF : ∀ c, c ∉ ([] : List Addr) := fun c => by simp
    have Ga4 : GuestAt K T.C H4 a (g0 n0) := Ga.off fm3 fun c _ => noF c
    have Ga5 : GuestAt K T.C H5 a (g0 n0) := Ga4.off fb fun c _ => noF c
    have Gm5 : GuestAt K T.C H5 m (g0 n0) := Gm.off fb fun c _ => noF c
    have k25 : ∀ c u, H2 c = some u → H5 c = some u := fun c u e => fb.keep _ _ (fm3.keep _ _ (fa2.keep _ _ e (noF c)) (noF c)) (noF c)
    obtain ⟨g0e, g0o, g0f⟩ := g0_going n0
    have S0 : LS K T.C H2 pt H5 a m b (g0 n0) (g0 n0) (g0 n0) (0 + 20) :=
      { A := Ga5
        M := Gm5
        B := Mb
        am := frm_disj fm3 Ga.has fun c _ => noF c
        ab := frm_disj fb Ga4.has fun c _ => noF c
        mb := frm_disj fb Gm.has fun c _ => noF c
        fA := fun c hc => (fa2.sub c hc).elim (fun z => absurd z (noF c)) id
        fM := fun c hc => (fm3.sub c hc).elim (fun z => absurd z (noF c)) (n3 c)
        fB := fun c hc => (fb.sub c hc).elim (fun z => absurd z (noF c)) (n4 c)
        keep := fun c u e _ => k25 c u e
        pot := hp2.stay fun u e => k25 _ _ e
        hpt := hp2.ne }
    have gg0 : gone (g0 n0) = g0 n0 := by
      unfold gone
      cases hz : g0 n0
      rw [hz] at g0e
      have z : _ = ([] : List (Str × List Str)) := g0e
      subst z
      rfl
    have P0 : PT 0 1 (g0 n0) := ⟨ok_g0 n0, g0f⟩
    have K0 : KW [] (g0 n0) := kw_g0 n0
    have IJ0 := ij_g0 n0
    rw [gg0] at IJ0
    have hnl5 := k25 _ _ hnl
    have nlp : nl ≠ pt := fun z => by
      obtain ⟨p0, p1, p2, e, _⟩ := hp2
      rw [← z, hnl, enm] at e
      injection e with e1
      injection e1 with e2
      injection e2 with e3 _
      cases e3
    have sEnd : ∀ H', (∀ c u, H2 c = some u → c ≠ pt → H' c = some u) → SqL K H' sa (ns.map V.int) := by
      intro H' kp
      have kq : ∀ u, H0 sa = some u → H' sa = some u := fun u e => kp _ _ (k02 _ _ e) fun z => by
        rw [z, hpt0] at e
        cases e
      rcases hS0 with (e | ⟨o, e⟩) | e
      · exact .inl (.inl (kq _ e))
      · exact .inl (.inr ⟨o, kq _ e⟩)
      · exact .inr e
    generalize g0 n0 = g at S0 gg0 P0 K0 IJ0 g0o
    obtain ⟨gB, S, hgB, hBF⟩ : ∃ gB, LS K T.C H2 pt H5 a m b g g gB (0 + 20) ∧ gone gB = g ∧ BF gB := ⟨g, S0, gg0, P0.ok.toBase, P0.fit.mono (by decide) (by decide) (by decide)⟩
    clear S0
    -- many houses
    refine ⟨_, rfl, nl, _, rfl, .inl (SqL.of hnl5), _, _, rfl, rfl, _, rfl, ?_⟩
    by_cases c50 : (((nm.map V.str).length : Nat) : Int) > 50
    rotate_left
    rw [decide_eq_false c50]
    refine iteF ?_
    have hPT := P0.mono (show 0 ≤ 720 by decide) (show 1 ≤ 1100 by decide)
    have hKW := K0
    have hn : (0 + 20) ≤ 300 := by decide
    generalize 0 + 20 = n at S hn
    rotate_left
    rw [decide_eq_true c50]
    refine iteT ?_
    have l101 : nm.length = 101 := by
      rw [List.length_map] at c50
      omega
    refine ⟨_, rfl, 1, rfl, 90, rfl, nl, _, rfl, SqL.of hnl5, fun D1 hD1 => ?_⟩
    rw [cut90 l101]
    have ehs : (nm.drop 1).take 89 = hks.take 89 := by rw [enm]; rfl
    rw [ehs]
    have lks : hks.length = 100 := by
      rw [enm] at l101
      exact Nat.succ.inj l101
    have lhs : (hks.take 89).length = 89 := by
      rw [List.length_take]
      omega
    have ndks : hks.Nodup ∧ n0 ∉ hks := by
      rw [enm, List.nodup_cons] at hnd
      exact ⟨hnd.2, hnd.1⟩
    have ndhs : (hks.take 89).Nodup := ndks.1.sublist (List.take_sublist _ _)
    have nohs : n0 ∉ hks.take 89 := fun z => ndks.2 (List.mem_of_mem_take z)
    have nmhs : ∀ x ∈ hks.take 89, Nm x := fun x hx => hNm x (by rw [enm]; exact List.mem_cons_of_mem _ (List.mem_of_mem_take hx))
    generalize hhs : hks.take 89 = hs at lhs ndhs nohs nmhs ⊢
    have S6 := S.same (same_new (o := .lst (hs.map V.str)) hD1)
    have O6 : Out (upd H5 D1 (.lst (hs.map V.str))) D1 (.lst (hs.map V.str)) a m b pt :=
      ⟨upd_same, S.A.notNew hD1, S.M.notNew hD1, S.B.notNew hD1, fun z => S.pot.ne (z ▸ hD1)⟩
    refine ⟨D1, rfl, ⟨_, SqL.of upd_same⟩, for_list (K := K) (a := D1) (xs := hs.map V.str) (fun j σ H' => ∃ (a m b : GA) (g gB : Ha.G) (v7 v8 : Option V), σ = [some (.ref sa), some (.int (0 + (kk : Int))), some (.ref pt), some (.ref nl), some (.ref a.p), some (.ref m.p), some (.ref b.p), v7, v8, v9, v10, v11] ∧ LS K T.C H2 pt H' a m b g g gB (0 + 20) ∧ gone gB = g ∧ BF gB ∧ PT (2 * j) (1 + 3 * j) g ∧ KW [] g ∧ IJ g (hs.take j) ∧ g.own = n0 ∧ Out H' D1 (.lst (hs.map V.str)) a m b pt)
      ⟨a, m, b, g, gB, _, _, rfl, S6, hgB, hBF, P0, K0, IJ0, g0o, O6⟩ (fun j σ H' _ ⟨_, _, _, _, _, _, _, _, _, _, _, _, _, _, _, O⟩ => SqL.of O.at') ?_ ?_⟩
    · clear S S6 O6 hgB hBF P0 K0 IJ0 g0o Ga Gm Mb fa fm fb Ga4 Ga5 Gm5
      rintro j x σ Hj hj ⟨a, m, b, g, gB, v7, v8, rfl, S, hgB, hBF, hPT, hKW, hIJ, hown, O⟩
      rw [List.getElem?_map] at hj
      obtain ⟨h, hjh, rfl⟩ := Option.map_eq_some_iff.mp hj
      have hjl : j < 89 := by
        have z := (List.getElem?_eq_some_iff.mp hjh).1
        omega
      have hmem : h ∈ hs := List.mem_of_getElem? hjh
      have hNh := nmhs h hmem
      have tk : hs.take (j + 1) = hs.take j ++ [h] := by
        rw [List.take_add_one, hjh]
        rfl
      have hnt : h ∉ hs.take j := by
        have z : (hs.take (j + 1)).Nodup := ndhs.sublist (List.take_sublist _ _)
        rw [tk, List.nodup_append] at z
        exact fun y => z.2.2 h y h (by simp) rfl
      obtain ⟨g', hs', hIJ', hown'⟩ := join_step hIJ (by rw [hown]; exact fun z => nohs (z ▸ hmem)) hnt
      have hWn : ∀ x, (What.join h).house = some x → Nm x := good_house (W := .join h) hNh
      have pre := hPT.pre (by omega) (by omega)
      have hPT' := hPT.step hs' hWn
      have sent := hPT.sent hs' hWn
      obtain ⟨shp, can⟩ := sent.shaped
      -- the guest
      refine ⟨_, rfl, a.p, a.dx, _, rfl, S.A.ob, rfl, _, rfl, a, g, h, rfl, hNh, S.A, pre, (fun e => by rw [hs'] at e; cases e), fun g1 e1 a1 H1 r ea G1 f1 hr1 hr2 hl => ?_⟩
      obtain rfl : g' = g1 := Option.some.inj (hs'.symm.trans e1)
      have rm : r ∉ m.ft := hr2.elim (fun z => S.am r z) fun z => S.M.notNew z
      have rb : r ∉ b.ft := hr2.elim (fun z => S.ab r z) fun z => S.B.notNew z
      have S1 := S.mvA G1 f1
      have O1 := O.mvA f1
      -- the law's own
      refine ⟨_, rfl, _, rfl, (by show 2 ≤ sizeLine; decide), fun c hc => ?_⟩
      have S2 := S1.same (same_new (o := .tup [.str "join", .str h]) hc)
      have O2 := O1.same (same_new (o := .tup [.str "join", .str h]) hc)
      have hl2 := lst_same hl (same_new (o := .tup [.str "join", .str h]) hc)
      refine ⟨b, gB, c, .join h, rfl, S2.B, upd_same, hNh, (by rw [hgB]; exact pre), (fun e => by rw [hgB, hs'] at e; cases e), fun g2 e2 b1 H3 eb M2 f3 => ?_⟩
      rw [hgB] at e2
      obtain rfl : g' = g2 := Option.some.inj (hs'.symm.trans e2)
      have S3 := S2.mvB M2 f3
      have O3 := O2.mvB f3
      have hl3 := lst_keep hl2 f3 rb
      refine ⟨_, rfl, _, _, dp_letters S3.B.go, dp_letters hl3, shp, shp, _, rfl, ?_⟩
      rw [eqv_self can]
      refine iteF ?_
      -- the mate
      refine ⟨_, rfl, m.p, m.dx, _, rfl, S3.M.ob, rfl, _, rfl, m, g, h, rfl, hNh, S3.M, pre, (fun e => by rw [hs'] at e; cases e), fun g3 e3 m1 H4 r4 em G4 f4 _ _ _ => ⟨_, rfl, ?_⟩⟩
      obtain rfl : g' = g3 := Option.some.inj (hs'.symm.trans e3)
      rw [decide_eq_false (fun z => by cases z)]
      refine iteF ?_
      refine ⟨a1, m1, b1, gone g', g', some (.str h), some (.ref r), ?_, S3.mvM G4 f4, rfl, ⟨sent.ok.toBase, ?_⟩, hPT'.mono (by omega) (by omega), kw_step hKW hs', (by rw [tk]; exact hIJ'), hown'.trans hown, O3.mvM f4⟩
      · rw [ea, em, eb]
        rfl
      · exact (fit_step hPT.fit hs').mono (by omega) (by omega) (by omega)
    rintro σ H7 ⟨a, m, b, g, gB, v7, v8, rfl, S, hgB, hBF, hPT, hKW, hIJ, hown, O⟩
    rw [List.length_map, List.take_length] at hIJ
    rw [List.length_map, lhs] at hPT
    -- the road
    have hnl7 := S.keep nl _ hnl nlp
    refine ⟨_, rfl, _, rfl, 1, rfl, 90, rfl, nl, _, rfl, SqL.of hnl7, fun D2 hD2 => ?_⟩
    rw [cut90 l101, ehs, hhs]
    have S8 := S.same (same_new (o := .lst (hs.map V.str)) hD2)
    refine ⟨pt, D2, 0 + 20, hs, rfl, S8.pot, by omega, upd_same, by omega, by omega, fun ord one wd xs D3 H9 pr h1 hwd hD3 eD3 pxs hp9 f9 => ?_⟩
    have S9 := S8.mvP hp9 f9
    have O9 : Out H9 D3 (.lst xs) a m b pt := ⟨eD3, S8.A.notNew hD3, S8.M.notNew hD3, S8.B.notNew hD3, fun z => S8.pot.ne (z ▸ hD3)⟩
    obtain ⟨gE, hrun⟩ := road_runs hIJ pr ndhs h1 hwd
    have gWs := road_good (ord := ord) (fun x hx => nmhs x (pr.mem_iff.mp hx)) h1 hwd
    have lR : (roadW ord one wd).length = 270 := by
      rw [road_len, pr.length_eq, lhs]
    generalize roadW ord one wd = RW at pxs hrun gWs lR
    refine ⟨D3, rfl, ⟨_, SqL.of eD3⟩, for_list (K := K) (a := D3) (xs := xs) (fun j σ H' => ∃ (a m b : GA) (g gB : Ha.G) (v7 v8 v9 v10 : Option V), σ = [some (.ref sa), some (.int (0 + (kk : Int))), some (.ref pt), some (.ref nl), some (.ref a.p), some (.ref m.p), some (.ref b.p), v7, v8, v9, v10, v11] ∧ LS K T.C H2 pt H' a m b g g gB (0 + 20 + 200) ∧ gone gB = g ∧ BF gB ∧ PT (178 + 2 * j) (268 + 3 * j) g ∧ KW [] g ∧ runs g (RW.drop j) = some gE ∧ Out H' D3 (.lst xs) a m b pt ∧ Paired (WhatR H') RW xs)
      ⟨a, m, b, g, gB, _, _, _, _, rfl, S9, hgB, hBF, hPT.mono (by omega) (by omega), hKW, hrun, O9, pxs⟩ (fun j σ H' _ ⟨_, _, _, _, _, _, _, _, _, _, _, _, _, _, _, _, O, _⟩ => SqL.of O.at') ?_ ?_⟩
    · clear S S8 S9 O O9 hgB hBF hPT hKW hIJ hown pxs hrun hp9 f9 hnl7
      rintro j x σ Hj hj ⟨a, m, b, g, gB, v7, v8, v9, v10, rfl, S, hgB, hBF, hPT, hKW, hrun, O, pxs⟩
      obtain ⟨W, hW, c, rfl, wa⟩ := paired_at pxs hj
      obtain ⟨hjl, eW⟩ := List.getElem?_eq_some_iff.mp hW
      have gw := gWs W (List.mem_of_getElem? hW)
      have hWn := good_house gw
      rw [List.drop_eq_getElem_cons hjl, eW] at hrun
      obtain ⟨g', hs'⟩ : ∃ g', stepR g W = some g' := by
        cases e : stepR g W with
        | none =>
          have z : (match stepR g W with | none => none | some g' => runs (gone g') (RW.drop (j + 1))) = some gE := hrun
          rw [e] at z
          cases z
        | some g' => exact ⟨g', rfl⟩
      rw [runs_cons hs'] at hrun
      have pre := hPT.pre (by omega) (by omega)
      have hPT' := hPT.step hs' hWn
      have sent := hPT.sent hs' hWn
      obtain ⟨shp, can⟩ := sent.shaped
      refine ⟨_, rfl, _, rfl, b, gB, c, W, rfl, S.B, wa, gw, (by rw [hgB]; exact pre), (fun e => by rw [hgB, hs'] at e; cases e), fun g2 e2 b1 H1' eb M2 f2 => ?_⟩
      rw [hgB] at e2
      obtain rfl : g' = g2 := Option.some.inj (hs'.symm.trans e2)
      have S2 := S.mvB M2 f2
      have O2 := O.mvB f2
      have wa2 := wa.stay f2.tup
      refine ⟨_, rfl, _, rfl, ?_⟩
      rw [decide_eq_false (fun z => by cases z)]
      refine iteF ?_
      refine ⟨_, rfl, _, rfl, a, g, c, W, rfl, S2.A, pre, wa2, gw, (fun e => by rw [hs'] at e; cases e), fun g3 e3 a1 H2' r ea G1 f3 hr1 hr2 hl => ?_⟩
      obtain rfl : g' = g3 := Option.some.inj (hs'.symm.trans e3)
      have S3 := S2.mvA G1 f3
      have O3 := O2.mvA f3
      refine ⟨_, rfl, _, _, dp_letters hl, dp_letters S3.B.go, shp, shp, _, rfl, ?_⟩
      rw [eqv_self can]
      refine iteF ?_
      refine ⟨_, rfl, _, rfl, m, g, c, W, rfl, S3.M, pre, wa2.stay f3.tup, gw, (fun e => by rw [hs'] at e; cases e), fun g4 e4 m1 H3' r2 em G4 f4 hr3 hr4 hl2 => ?_⟩
      obtain rfl : g' = g4 := Option.some.inj (hs'.symm.trans e4)
      have S4 := S3.mvM G4 f4
      refine ⟨_, rfl, _, _, dp_letters hl2, dp_letters S4.B.go, shp, shp, _, rfl, ?_⟩
      rw [eqv_self can]
      refine iteF ?_
      refine ⟨a1, m1, b1, gone g', g', v7, v8, some (.ref c), some (.ref b1.going), ?_, S4, rfl, ⟨sent.ok.toBase, ?_⟩, hPT'.mono (by omega) (by omega), kw_step hKW hs', hrun, O3.mvM f4, Paired.mapP pxs fun _ _ q => ((q.stay f2.tup).stay f3.tup).stay f4.tup⟩
      · rw [ea, em, eb]
        rfl
      · exact (fit_step hPT.fit hs').mono (by omega) (by omega) (by omega)
    rintro σ H10 ⟨a, m, b, g, gB, v7, v8, v9, v10, rfl, S, hgB, hBF, hPT, hKW, _, _, _⟩
    have lxs : xs.length = 270 := by rw [paired_len pxs, lR]
    rw [lxs] at hPT
    refine ⟨_, rfl, _, rfl, a, b, gB, rfl, (by rw [hgB]; exact S.A), S.B, (fun z => S.ab _ z (by simp [GA.ft])), hBF.1, hBF.2, fun Hc sc => ⟨true, rfl, iteF ?_⟩⟩
    have S := S.same sc
    have hPT := hPT.mono (show 178 + 2 * 270 ≤ 720 by decide) (show 268 + 3 * 270 ≤ 1100 by decide)
    have hn : (0 + 20 + 200) ≤ 300 := by decide
    generalize 0 + 20 + 200 = n at S hn
    all_goals
      -- turn by turn
      refine ⟨_, rfl, pt, n, _, rfl, S.pot, by omega, by decide, by decide, fun r HD r0 r1 hpD fD => ?_⟩
      have SD := S.mvP hpD fD
      refine ⟨r, rfl, by omega, by omega, for_range (lo := 0) (n := r.toNat) (fun j σ H' => ∃ (a m b : GA) (g gB : Ha.G) (n : Nat) (v7 v8 v9 v10 v11 : Option V), σ = [some (.ref sa), some (.int (0 + (kk : Int))), some (.ref pt), some (.ref nl), some (.ref a.p), some (.ref m.p), some (.ref b.p), v7, v8, v9, v10, v11] ∧ LS K T.C H2 pt H' a m b g g gB n ∧ n ≤ 301 + 5 * j ∧ gone gB = g ∧ PT (720 + 2 * j) (1100 + 3 * j) g ∧ KW [] g)
        ⟨a, m, b, g, gB, _, _, _, _, _, _, rfl, SD, by omega, hgB, hPT, hKW⟩ ?_ ?_⟩
      · clear S SD hgB hPT hKW hn hpD fD
        rintro j σ Hj hj ⟨a, m, b, g, gB, n, v7, v8, v9, v10, v11, rfl, S, hn, hgB, hPT, hKW⟩
        have hj' : j < 151 := by omega
        have hnlj := S.keep nl _ hnl nlp
        refine ⟨_, rfl, _, rfl, _, rfl, 1, rfl, nl, _, rfl, SqL.of hnlj, fun q hq => ?_⟩
        rw [cut1]
        have eks : nm.drop 1 = hks := by rw [enm]; rfl
        rw [eks]
        have lks : hks.length + 1 = nm.length := by rw [enm]; rfl
        have S1 := S.same (same_new (o := .lst (hks.map V.str)) hq)
        refine ⟨pt, q, a, g, n, hks, rfl, S1.pot, by omega, S1.A, S1.ptA, upd_same, by omega, by omega, (fun x hx => hNm x (by rw [enm]; exact List.mem_cons_of_mem _ hx)), fun W v Hw gw wr hpw fw => ?_⟩
        obtain ⟨c, rfl, wa⟩ := wr
        have S2 := S1.mvP hpw fw
        have hWn := good_house gw
        have pre := hPT.pre (by omega) (by omega)
        refine ⟨_, rfl, _, rfl, b, gB, c, W, rfl, S2.B, wa, gw, (by rw [hgB]; exact pre), fun e b1 H3 eb M3 f3 => ?_, fun g' e b1 H3 eb M3 f3 => ?_⟩
        · -- refused
          rw [hgB] at e
          have S3 := S2.mvB M3 f3
          rw [hgB] at S3
          have wa3 := wa.stay f3.tup
          refine ⟨_, rfl, _, rfl, a, g, c, W, rfl, S3.A, pre, wa3, gw, fun _ H4 s4 => ?_, fun g' e' => by rw [e] at e'; cases e'⟩
          have S4 := S3.same s4
          refine ⟨_, rfl, _, rfl, m, g, c, W, rfl, S4.M, pre, wa3.stay (fun b ys z => s4 _ _ z), gw, fun _ H5' s5 => ?_, fun g' e' => by rw [e] at e'; cases e'⟩
          have S5 := S4.same s5
          obtain ⟨y1, y2, y3⟩ := two_none
          refine ⟨(by show 2 ≤ sizeLine; decide), fun q1 hq1 => ⟨q1, _, rfl, .lst (SqL.of upd_same) (.cons .non (.cons .non .nil)), y1, y2, y3, ?_⟩⟩
          have S6 := S5.same (same_new (o := .lst [.non, .non]) hq1)
          refine ⟨_, rfl, _, rfl, (by show 2 ≤ sizeLine; decide), fun q2 hq2 => ⟨q2, _, rfl, .lst (SqL.of upd_same) (.cons .non (.cons .non .nil)), y1, y2, y3, rfl, _, rfl, ?_⟩⟩
          have S7 := S6.same (same_new (o := .lst [.non, .non]) hq2)
          rw [decide_eq_true rfl]
          refine iteF ?_
          have gg : gone g = g := by rw [← hgB]; rfl
          rw [← eb]
          refine ⟨_, rfl, _, rfl, a, b1, g, rfl, (by rw [gg]; exact S7.A), S7.B, (fun z => S7.ab _ z (by simp [GA.ft])), hPT.ok.toBase, hPT.fit.mono (by omega) (by omega) (by omega), fun H8 s8 => ⟨true, rfl, iteF ?_⟩⟩
          exact ⟨a, m, b1, g, g, _, _, _, _, _, _, rfl, S7.same s8, by omega, gg, hPT.mono (by omega) (by omega), hKW⟩
        · -- done
          rw [hgB] at e
          have S3 := S2.mvB M3 f3
          have wa3 := wa.stay f3.tup
          have hPT' := hPT.step e hWn
          have sent := hPT.sent e hWn
          refine ⟨_, rfl, _, rfl, a, g, c, W, rfl, S3.A, pre, wa3, gw, (fun e' => by rw [e] at e'; cases e'), fun g4 e4 a1 H4 r4 ea G4 f4 hr1 hr2 hl4 => ?_⟩
          obtain rfl : g' = g4 := Option.some.inj (e.symm.trans e4)
          have S4 := S3.mvA G4 f4
          have rm : r4 ∉ m.ft := hr2.elim (fun z => S3.am r4 z) fun z => S3.M.notNew z
          refine ⟨_, rfl, _, rfl, m, g, c, W, rfl, S4.M, pre, wa3.stay f4.tup, gw, (fun e' => by rw [e] at e'; cases e'), fun g5 e5 m1 H5' r5 em G5 f5 _ _ hl5 => ?_⟩
          obtain rfl : g' = g5 := Option.some.inj (e.symm.trans e5)
          have S5 := S4.mvM G5 f5
          have hl45 := lst_keep hl4 f5 rm
          obtain ⟨y1, y2, y3⟩ := two_letters sent.ok.nG (by have := sent.len; omega)
          refine ⟨(by show 2 ≤ sizeLine; decide), fun q1 hq1 => ⟨q1, _, rfl, .lst (SqL.of upd_same) (.cons (dp_letters (lst_same hl45 (same_new hq1))) (.cons (dp_letters (lst_same hl5 (same_new hq1))) .nil)), y1, y2, y3, ?_⟩⟩
          have S6 := S5.same (same_new (o := .lst [.ref r4, .ref r5]) hq1)
          refine ⟨_, rfl, _, rfl, (by show 2 ≤ sizeLine; decide), fun q2 hq2 => ⟨q2, _, rfl, .lst (SqL.of upd_same) (.cons (dp_letters (S6.same (same_new hq2)).B.go) (.cons (dp_letters (S6.same (same_new hq2)).B.go) .nil)), y1, y2, y3, rfl, _, rfl, ?_⟩⟩
          have S7 := S6.same (same_new (o := .lst [.ref b1.going, .ref b1.going]) hq2)
          rw [decide_eq_true rfl]
          refine iteF ?_
          have fitB := (fit_step hPT.fit e)
          rw [← eb, ← ea, ← em]
          refine ⟨_, rfl, _, rfl, a1, b1, g', rfl, S7.A, S7.B, (fun z => S7.ab _ z (by simp [GA.ft])), sent.ok.toBase, fitB.mono (by omega) (by omega) (by omega), fun H8 s8 => ⟨true, rfl, iteF ?_⟩⟩
          exact ⟨a1, m1, b1, gone g', g', _, _, _, _, _, _, rfl, S7.same s8, by omega, rfl, hPT'.mono (by omega) (by omega), kw_step hKW e⟩
      · clear S SD hgB hPT hKW hn hpD fD
        rintro σ Hj ⟨a, m, b, g, gB, n, v7, v8, v9, v10, v11, rfl, S, hn, hgB, hPT, hKW⟩
        have hPT := hPT.mono (t' := 1030) (p' := 1600) (by omega) (by omega)
        -- while it awaits answers
        refine ⟨fun k0 σ H' => ∃ (a m b : GA) (gA gM gB : Ha.G) (p : Nat) (v7 v8 v9 v10 v11 : Option V), σ = [some (.ref sa), some (.int (0 + (kk : Int))), some (.ref pt), some (.ref nl), some (.ref a.p), some (.ref m.p), some (.ref b.p), v7, v8, v9, v10, v11] ∧ LS K T.C H2 pt H' a m b gA gM gB n ∧ gone gB = gA ∧ PT 1030 p gA ∧ KW [] gA ∧ p + k0 ≤ 4000 ∧ gA.waits.length ≤ k0,
          ⟨1030, a, m, b, g, g, gB, 1600, _, _, _, _, _, rfl, S, hgB, hPT, hKW, by decide, hPT.fit.w⟩, ?_⟩
        clear S hgB hPT hKW
        rintro k0 σ Hw ⟨a, m, b, g, gM, gB, p, v7, v8, v9, v10, v11, rfl, S, hgB, hPT, hKW, hpk, hwk⟩
        refine ⟨_, rfl, a.p, a.dx, _, rfl, S.A.ob, rfl, a, g, rfl, S.A, fun p1 hp1 => ?_⟩
        have S1 := S.same (same_new (o := .lst ((srt g.waits).map V.str)) hp1)
        have e1 : (upd Hw p1 (.lst ((srt g.waits).map V.str))) p1 = some (.lst ((srt g.waits).map V.str)) := upd_same
        refine ⟨Nat.zero_le _, fun q hq => ?_⟩
        have S2 := S1.same (same_new (o := .lst []) hq)
        refine ⟨_, _, .lst (SqL.of (same_new hq _ _ e1)) (dpAll_strs _), .lst (SqL.of upd_same) .nil, shaped_names (fun x hx => hPT.ok.nW x (srt_mem.mp hx)), shaped_nil, _, rfl, ?_⟩
        rw [eqv_nil]
        by_cases hw0 : srt g.waits = []
        · rw [decide_eq_true hw0]
          refine iteF ?_
          exact ⟨_, _, _, _, _, _, _, _, _, _, _, rfl, sEnd _ S2.keep⟩
        · rw [decide_eq_false hw0]
          refine iteT ⟨fun σ' H' => ∃ m', m' < k0 ∧ ∃ (a m b : GA) (gA gM gB : Ha.G) (p : Nat) (v7 v8 v9 v10 v11 : Option V), σ' = [some (.ref sa), some (.int (0 + (kk : Int))), some (.ref pt), some (.ref nl), some (.ref a.p), some (.ref m.p), some (.ref b.p), v7, v8, v9, v10, v11] ∧ LS K T.C H2 pt H' a m b gA gM gB n ∧ gone gB = gA ∧ PT 1030 p gA ∧ KW [] gA ∧ p + m' ≤ 4000 ∧ gA.waits.length ≤ m', fun _ _ z => z, ?_⟩
          obtain ⟨h, rr, ew⟩ : ∃ h rr, srt g.waits = h :: rr := by
            cases z : srt g.waits with
            | nil => exact absurd z hw0
            | cons x r => exact ⟨x, r, rfl⟩
          have hw : h ∈ g.waits := srt_mem.mp (by rw [ew]; exact List.mem_cons_self)
          have hk : h ∈ g.keys := (hKW.w h hw).elim id fun z => by cases z
          have hNh := hPT.ok.nW h hw
          have at0' : atI ((srt g.waits).map V.str) 0 = some (V.str h) := by
            have z : atI ((srt g.waits).map V.str) ((0 : Nat) : Int) = some (V.str h) := atI_nat (by rw [ew]; rfl)
            exact z
          have hs' : stepR g (.hear h lHeard) = some (answered g h) := by
            show stepH g h lHeard = _
            unfold stepH
            rw [if_neg (fun z => z hk), if_neg (by decide +kernel), if_neg (by decide +kernel), if_pos rfl, if_pos hw]
          have pre := hPT.pre (by decide) (by omega)
          have hPT' := hPT.answer hw
          have okg' : Ok (answered g h) := ok_answered hPT.ok hw
          obtain ⟨shp, can⟩ := letters_shaped okg'.nG
          have L7h : L7 lHeard := .inr (.inl rfl)
          -- what is to be heard
          refine ⟨_, rfl, a.p, a.dx, _, rfl, S2.A.ob, rfl, a, g, rfl, S2.A, fun p2 hp2 => ⟨p2, _, _, .str h, rfl, rfl, SqL.of upd_same, at0', ?_⟩⟩
          have S3 := S2.same (same_new (o := .lst ((srt g.waits).map V.str)) hp2)
          refine ⟨(by show 1 ≤ sizeLine; decide), fun tb htb => ⟨(by show 3 ≤ sizeLine; decide), fun t ht => ?_⟩⟩
          have S4 := (S3.same (same_new (o := .tup [.str "heard"]) htb)).same (same_new (o := .tup [.str "hear", .str h, .ref tb]) ht)
          have eb4 := same_new (o := .tup [.str "hear", .str h, .ref tb]) ht _ _ (upd_same (a := tb) (o := .tup (lHeard.map V.str)))
          have et4 := upd_same (H := upd (upd (upd (upd Hw p1 (.lst ((srt g.waits).map V.str))) q (.lst [])) p2 (.lst ((srt g.waits).map V.str))) tb (.tup [.str "heard"])) (a := t) (o := .tup [.str "hear", .str h, .ref tb])
          change tSeq _ _ _ _ (upd (upd (upd (upd (upd Hw p1 (.lst ((srt g.waits).map V.str))) q (.lst [])) p2 (.lst ((srt g.waits).map V.str))) tb (.tup [.str "heard"])) t (.tup [.str "hear", .str h, .ref tb]))
          have eb4 : (upd (upd (upd (upd (upd Hw p1 (.lst ((srt g.waits).map V.str))) q (.lst [])) p2 (.lst ((srt g.waits).map V.str))) tb (.tup [.str "heard"])) t (.tup [.str "hear", .str h, .ref tb])) tb = some (.tup (lHeard.map V.str)) := eb4
          generalize upd (upd (upd (upd (upd Hw p1 (.lst ((srt g.waits).map V.str))) q (.lst [])) p2 (.lst ((srt g.waits).map V.str))) tb (.tup [.str "heard"])) t (.tup [.str "hear", .str h, .ref tb]) = H5w at S4 eb4 et4 ⊢
          -- the guest hears
          refine ⟨_, rfl, a.p, a.dx, _, rfl, S4.A.ob, rfl, _, rfl, t, _, _, .str h, rfl, rfl, SqT.of et4, rfl, _, rfl, t, _, _, .ref tb, rfl, rfl, SqT.of et4, rfl, a, g, h, tb, lHeard, rfl, hNh, eb4, L7h, S4.A, pre, (fun e => by rw [hs'] at e; cases e), fun g1 e1 a1 H6 r ea G1 f1 hr1 hr2 hl => ?_⟩
          obtain rfl : answered g h = g1 := Option.some.inj (hs'.symm.trans e1)
          have rb : r ∉ b.ft := hr2.elim (fun z => S4.ab r z) fun z => S4.B.notNew z
          have S5 := S4.mvA G1 f1
          have wa : WhatAt H6 t (.hear h lHeard) := ⟨tb, f1.tup _ _ et4, f1.tup _ _ eb4⟩
          -- the law's own
          refine ⟨_, rfl, _, rfl, _, rfl, b, gB, t, .hear h lHeard, rfl, S5.B, wa, ⟨hNh, L7h⟩, (by rw [hgB]; exact pre), (fun e => by rw [hgB, hs'] at e; cases e), fun g2 e2 b1 H7 eb M2 f2 => ?_⟩
          rw [hgB] at e2
          obtain rfl : answered g h = g2 := Option.some.inj (hs'.symm.trans e2)
          have S6 := S5.mvB M2 f2
          refine ⟨_, _, dp_letters (lst_keep hl f2 rb), dp_letters S6.B.go, shp, shp, _, rfl, ?_⟩
          rw [eqv_self can]
          refine iteF ?_
          rw [← eb, ← ea]
          have fitB := fit_answered (h := h) hPT.fit
          refine ⟨_, rfl, _, rfl, a1, b1, answered g h, rfl, S6.A, S6.B, (fun z => S6.ab _ z (by simp [GA.ft])), okg'.toBase, fitB.mono (by decide) (by omega) (by decide), fun H8 s8 => ⟨true, rfl, iteF ?_⟩⟩
          have lt := answered_waits (h := h) hw
          exact ⟨k0 - 1, by omega, a1, m, b1, gone (answered g h), gM, answered g h, p + 1, _, _, _, _, _, rfl, S6.same s8, rfl, hPT', kw_step hKW hs', by omega, by show (answered g h).waits.length ≤ k0 - 1; omega⟩
end
end Ha

/-! What the top has written, from single facts; the end. Printed by genend.py. -/
namespace Ha
open PySem PySem.Spec PyProof.Rows L2
theorem exm_up {K : PySem.W.Frag} {S B : Addr} (h0 : PySem.W.subIn K (.ref B) (.type "BaseException") = some true) (h2 : PySem.W.isClsIn K B = true) (h3 : PySem.W.typeIn K (.ref B) = some (.type "type")) (h4 : PySem.W.subIn K (.ref S) (.ref B) = some true) :
    PySem.W.exmOne K (.ref S) (.ref B) = some true := by
  have e1 : (PySem.W.subIn K (.ref B) (.type "BaseException") == some true) = true := by rw [h0] <;> rfl
  have e2 : ((PySem.W.clsIn K B).isSome && PySem.W.typeIn K (.ref B) == some (.type "type")) = true := by
    rw [show (PySem.W.clsIn K B).isSome = true from h2, h3] <;> rfl
  show (if (PySem.W.subIn K (.ref B) (.type "BaseException") == some true) = true then (if ((PySem.W.clsIn K B).isSome && PySem.W.typeIn K (.ref B) == some (.type "type")) = true then PySem.W.subIn K (.ref S) (.ref B) else none) else none) = some true
  rw [if_pos e1, if_pos e2]
  exact h4
def kt_of {K : PySem.W.Frag} {h : Heap} {mg : Str → Option Value} (X : K.In h) (G : h.Ns mainGlobals mg) {x z : Str} {a : Addr} {od : Option Addr} {t : Tok} {n : Nat} {sl : Array (Option Value)} (g : PySem.W.nsIn K mainGlobals x = some (some (.ref a)))
    (l : K.lookup a = some ⟨.type "tuple", od, .seq #[.str z t] n, sl⟩) : Kt K mg x [z] :=
  ⟨a, PySem.W.mg_of X G g, fun _ => .inr ⟨_, _, _, l, rfl, rfl, (by show 1 ≤ sizeLine; decide), .cons ⟨t, rfl⟩ .nil⟩, _, l, rfl⟩
theorem kt_one {z : Str} : ([z] : List Str) = [z] := rfl
def all_tx {K : PySem.W.Frag} {h : Heap} {mg : Str → Option Value} (X : K.In h) (G : h.Ns mainGlobals mg)
    {C : Addr}
    {tIN : Tok}
    {tOUT : Tok}
    {tCLEAR : Tok}
    {tBARRED : Tok}
    {tWORD : Tok}
    {tLETTERS : Tok}
    {tMOST : Tok}
    {aOPEN : Addr} {oOPEN : Option Addr} {tOPEN : Tok} {nOPEN : Nat} {sOPEN : Array (Option Value)}
    {aHEARD : Addr} {oHEARD : Option Addr} {tHEARD : Tok} {nHEARD : Nat} {sHEARD : Array (Option Value)}
    {aCHAIR : Addr} {oCHAIR : Option Addr} {tCHAIR : Tok} {nCHAIR : Nat} {sCHAIR : Array (Option Value)}
    {aBACK : Addr} {oBACK : Option Addr} {tBACK : Tok} {nBACK : Nat} {sBACK : Array (Option Value)}
    {eChairError : Addr}
    {eNoName : Addr}
    {eNoRoad : Addr}
    {eNoLetter : Addr}
    {eNotWished : Addr}
    {eTwice : Addr}
    {f_init : Addr} {od_init an_init : Option Addr} {sl_init : Array (Option Value)} {oc_init kV_init dc_init pm_init cd_init ct_init : Value}
    {f_need_near : Addr} {od_need_near an_need_near : Option Addr} {sl_need_near : Array (Option Value)} {oc_need_near kV_need_near dc_need_near pm_need_near cd_need_near ct_need_near : Value}
    {f_tell : Addr} {od_tell an_tell : Option Addr} {sl_tell : Array (Option Value)} {oc_tell kV_tell dc_tell pm_tell cd_tell ct_tell : Value}
    {f_gone : Addr} {od_gone an_gone : Option Addr} {sl_gone : Array (Option Value)} {oc_gone kV_gone dc_gone pm_gone cd_gone ct_gone : Value}
    {f_words_heard : Addr} {od_words_heard an_words_heard : Option Addr} {sl_words_heard : Array (Option Value)} {oc_words_heard kV_words_heard dc_words_heard pm_words_heard cd_words_heard ct_words_heard : Value}
    {f_given : Addr} {od_given an_given : Option Addr} {sl_given : Array (Option Value)} {oc_given kV_given dc_given pm_given cd_given ct_given : Value}
    {f_look : Addr} {od_look an_look : Option Addr} {sl_look : Array (Option Value)} {oc_look kV_look dc_look pm_look cd_look ct_look : Value}
    {f_settle : Addr} {od_settle an_settle : Option Addr} {sl_settle : Array (Option Value)} {oc_settle kV_settle dc_settle pm_settle cd_settle ct_settle : Value}
    {f_give_up : Addr} {od_give_up an_give_up : Option Addr} {sl_give_up : Array (Option Value)} {oc_give_up kV_give_up dc_give_up pm_give_up cd_give_up ct_give_up : Value}
    {f_close : Addr} {od_close an_close : Option Addr} {sl_close : Array (Option Value)} {oc_close kV_close dc_close pm_close cd_close ct_close : Value}
    {f_wish : Addr} {od_wish an_wish : Option Addr} {sl_wish : Array (Option Value)} {oc_wish kV_wish dc_wish pm_wish cd_wish ct_wish : Value}
    {f_unwish : Addr} {od_unwish an_unwish : Option Addr} {sl_unwish : Array (Option Value)} {oc_unwish kV_unwish dc_unwish pm_unwish cd_unwish ct_unwish : Value}
    {f_join : Addr} {od_join an_join : Option Addr} {sl_join : Array (Option Value)} {oc_join kV_join dc_join pm_join cd_join ct_join : Value}
    {f_part : Addr} {od_part an_part : Option Addr} {sl_part : Array (Option Value)} {oc_part kV_part dc_part pm_part cd_part ct_part : Value}
    {f_answered : Addr} {od_answered an_answered : Option Addr} {sl_answered : Array (Option Value)} {oc_answered kV_answered dc_answered pm_answered cd_answered ct_answered : Value}
    {f_hear : Addr} {od_hear an_hear : Option Addr} {sl_hear : Array (Option Value)} {oc_hear kV_hear dc_hear pm_hear cd_hear ct_hear : Value}
    {f_hear_word : Addr} {od_hear_word an_hear_word : Option Addr} {sl_hear_word : Array (Option Value)} {oc_hear_word kV_hear_word dc_hear_word pm_hear_word cd_hear_word ct_hear_word : Value}
    {f_hear_open : Addr} {od_hear_open an_hear_open : Option Addr} {sl_hear_open : Array (Option Value)} {oc_hear_open kV_hear_open dc_hear_open pm_hear_open cd_hear_open ct_hear_open : Value}
    {f_hear_chair : Addr} {od_hear_chair an_hear_chair : Option Addr} {sl_hear_chair : Array (Option Value)} {oc_hear_chair kV_hear_chair dc_hear_chair pm_hear_chair cd_hear_chair ct_hear_chair : Value}
    {f_houses : Addr} {od_houses an_houses : Option Addr} {sl_houses : Array (Option Value)} {oc_houses kV_houses dc_houses pm_houses cd_houses ct_houses : Value}
    {f_wishes : Addr} {od_wishes an_wishes : Option Addr} {sl_wishes : Array (Option Value)} {oc_wishes kV_wishes dc_wishes pm_wishes cd_wishes ct_wishes : Value}
    {f_is_open : Addr} {od_is_open an_is_open : Option Addr} {sl_is_open : Array (Option Value)} {oc_is_open kV_is_open dc_is_open pm_is_open cd_is_open ct_is_open : Value}
    {f_word : Addr} {od_word an_word : Option Addr} {sl_word : Array (Option Value)} {oc_word kV_word dc_word pm_word cd_word ct_word : Value}
    {f_heard_of : Addr} {od_heard_of an_heard_of : Option Addr} {sl_heard_of : Array (Option Value)} {oc_heard_of kV_heard_of dc_heard_of pm_heard_of cd_heard_of ct_heard_of : Value}
    {f_is_ahead : Addr} {od_is_ahead an_is_ahead : Option Addr} {sl_is_ahead : Array (Option Value)} {oc_is_ahead kV_is_ahead dc_is_ahead pm_is_ahead cd_is_ahead ct_is_ahead : Value}
    {f_chairs : Addr} {od_chairs an_chairs : Option Addr} {sl_chairs : Array (Option Value)} {oc_chairs kV_chairs dc_chairs pm_chairs cd_chairs ct_chairs : Value}
    {f_awaited : Addr} {od_awaited an_awaited : Option Addr} {sl_awaited : Array (Option Value)} {oc_awaited kV_awaited dc_awaited pm_awaited cd_awaited ct_awaited : Value}
    {f_owed : Addr} {od_owed an_owed : Option Addr} {sl_owed : Array (Option Value)} {oc_owed kV_owed dc_owed pm_owed cd_owed ct_owed : Value}
    {f_cause : Addr} {od_cause an_cause : Option Addr} {sl_cause : Array (Option Value)} {oc_cause kV_cause dc_cause pm_cause cd_cause ct_cause : Value}
    {f_turns : Addr} {od_turns an_turns : Option Addr} {sl_turns : Array (Option Value)} {oc_turns kV_turns dc_turns pm_turns cd_turns ct_turns : Value}
    {f_is_name : Addr} {od_is_name an_is_name : Option Addr} {sl_is_name : Array (Option Value)} {oc_is_name kV_is_name dc_is_name pm_is_name cd_is_name ct_is_name : Value}
    {f_is_letter : Addr} {od_is_letter an_is_letter : Option Addr} {sl_is_letter : Array (Option Value)} {oc_is_letter kV_is_letter dc_is_letter pm_is_letter cd_is_letter ct_is_letter : Value}
    {f_l_pot : Addr} {od_l_pot an_l_pot : Option Addr} {sl_l_pot : Array (Option Value)} {oc_l_pot kV_l_pot dc_l_pot pm_l_pot cd_l_pot ct_l_pot : Value}
    {f_l_dip : Addr} {od_l_dip an_l_dip : Option Addr} {sl_l_dip : Array (Option Value)} {oc_l_dip kV_l_dip dc_l_dip pm_l_dip cd_l_dip ct_l_dip : Value}
    {f_l_names : Addr} {od_l_names an_l_names : Option Addr} {sl_l_names : Array (Option Value)} {oc_l_names kV_l_names dc_l_names pm_l_names cd_l_names ct_l_names : Value}
    {f_l_done : Addr} {od_l_done an_l_done : Option Addr} {sl_l_done : Array (Option Value)} {oc_l_done kV_l_done dc_l_done pm_l_done cd_l_done ct_l_done : Value}
    {f_l_what : Addr} {od_l_what an_l_what : Option Addr} {sl_l_what : Array (Option Value)} {oc_l_what kV_l_what dc_l_what pm_l_what cd_l_what ct_l_what : Value}
    {f_l_new : Addr} {od_l_new an_l_new : Option Addr} {sl_l_new : Array (Option Value)} {oc_l_new kV_l_new dc_l_new pm_l_new cd_l_new ct_l_new : Value}
    {f_l_given : Addr} {od_l_given an_l_given : Option Addr} {sl_l_given : Array (Option Value)} {oc_l_given kV_l_given dc_l_given pm_l_given cd_l_given ct_l_given : Value}
    {f_l_look : Addr} {od_l_look an_l_look : Option Addr} {sl_l_look : Array (Option Value)} {oc_l_look kV_l_look dc_l_look pm_l_look cd_l_look ct_l_look : Value}
    {f_l_shut : Addr} {od_l_shut an_l_shut : Option Addr} {sl_l_shut : Array (Option Value)} {oc_l_shut kV_l_shut dc_l_shut pm_l_shut cd_l_shut ct_l_shut : Value}
    {f_l_joined : Addr} {od_l_joined an_l_joined : Option Addr} {sl_l_joined : Array (Option Value)} {oc_l_joined kV_l_joined dc_l_joined pm_l_joined cd_l_joined ct_l_joined : Value}
    {f_l_parted : Addr} {od_l_parted an_l_parted : Option Addr} {sl_l_parted : Array (Option Value)} {oc_l_parted kV_l_parted dc_l_parted pm_l_parted cd_l_parted ct_l_parted : Value}
    {f_l_opened : Addr} {od_l_opened an_l_opened : Option Addr} {sl_l_opened : Array (Option Value)} {oc_l_opened kV_l_opened dc_l_opened pm_l_opened cd_l_opened ct_l_opened : Value}
    {f_l_hears : Addr} {od_l_hears an_l_hears : Option Addr} {sl_l_hears : Array (Option Value)} {oc_l_hears kV_l_hears dc_l_hears pm_l_hears cd_l_hears ct_l_hears : Value}
    {f_l_did : Addr} {od_l_did an_l_did : Option Addr} {sl_l_did : Array (Option Value)} {oc_l_did kV_l_did dc_l_did pm_l_did cd_l_did ct_l_did : Value}
    {f_l_alike : Addr} {od_l_alike an_l_alike : Option Addr} {sl_l_alike : Array (Option Value)} {oc_l_alike kV_l_alike dc_l_alike pm_l_alike cd_l_alike ct_l_alike : Value}
    {f_l_houses : Addr} {od_l_houses an_l_houses : Option Addr} {sl_l_houses : Array (Option Value)} {oc_l_houses kV_l_houses dc_l_houses pm_l_houses cd_l_houses ct_l_houses : Value}
    {f_l_road : Addr} {od_l_road an_l_road : Option Addr} {sl_l_road : Array (Option Value)} {oc_l_road kV_l_road dc_l_road pm_l_road cd_l_road ct_l_road : Value}
    {f_law : Addr} {od_law an_law : Option Addr} {sl_law : Array (Option Value)} {oc_law kV_law dc_law pm_law cd_law ct_law : Value}
    (gC : PySem.W.nsIn K mainGlobals "Guest" = some (some (.ref C)))
    (cPg : PySem.W.plainGet K C Str.empty = true)
    (cHd : PySem.W.hasDictIn K C = true)
    (cPo : PySem.W.plainOver K C = true)
    (cSa : PySem.W.findIn K (.ref C) "__setattr__" = some (some (.builtin "object.__setattr__")))
    (cMk : PySem.W.makesIn K C = true)
    (cKp : PySem.W.keepIn K (.ref C) = true)
    (n_own : PySem.W.findIn K (.ref C) "own" = some none)
    (n_wished : PySem.W.findIn K (.ref C) "wished" = some none)
    (n_near : PySem.W.findIn K (.ref C) "near" = some none)
    (n_ears : PySem.W.findIn K (.ref C) "ears" = some none)
    (n_mark : PySem.W.findIn K (.ref C) "mark" = some none)
    (n_since : PySem.W.findIn K (.ref C) "since" = some none)
    (n_opened : PySem.W.findIn K (.ref C) "opened" = some none)
    (n_source : PySem.W.findIn K (.ref C) "source" = some none)
    (n_knows : PySem.W.findIn K (.ref C) "knows" = some none)
    (n_waits : PySem.W.findIn K (.ref C) "waits" = some none)
    (n_debts : PySem.W.findIn K (.ref C) "debts" = some none)
    (n_seats : PySem.W.findIn K (.ref C) "seats" = some none)
    (n_past : PySem.W.findIn K (.ref C) "past" = some none)
    (n_going : PySem.W.findIn K (.ref C) "going" = some none)
    (zIN : PySem.W.nsIn K mainGlobals "IN" = some (some (.str "in" tIN)))
    (zOUT : PySem.W.nsIn K mainGlobals "OUT" = some (some (.str "out" tOUT)))
    (zCLEAR : PySem.W.nsIn K mainGlobals "CLEAR" = some (some (.str "clear" tCLEAR)))
    (zBARRED : PySem.W.nsIn K mainGlobals "BARRED" = some (some (.str "barred" tBARRED)))
    (zWORD : PySem.W.nsIn K mainGlobals "WORD" = some (some (.str "word" tWORD)))
    (zLETTERS : PySem.W.nsIn K mainGlobals "LETTERS" = some (some (.str "abcdefghijklmnopqrstuvwxyz" tLETTERS)))
    (zMOST : PySem.W.nsIn K mainGlobals "MOST_LETTERS" = some (some (.int 8 tMOST)))
    (gOPEN : PySem.W.nsIn K mainGlobals "OPEN" = some (some (.ref aOPEN)))
    (lOPEN : K.lookup aOPEN = some ⟨.type "tuple", oOPEN, .seq #[.str "open" tOPEN] nOPEN, sOPEN⟩)
    (gHEARD : PySem.W.nsIn K mainGlobals "HEARD" = some (some (.ref aHEARD)))
    (lHEARD : K.lookup aHEARD = some ⟨.type "tuple", oHEARD, .seq #[.str "heard" tHEARD] nHEARD, sHEARD⟩)
    (gCHAIR : PySem.W.nsIn K mainGlobals "CHAIR" = some (some (.ref aCHAIR)))
    (lCHAIR : K.lookup aCHAIR = some ⟨.type "tuple", oCHAIR, .seq #[.str "chair" tCHAIR] nCHAIR, sCHAIR⟩)
    (gBACK : PySem.W.nsIn K mainGlobals "BACK" = some (some (.ref aBACK)))
    (lBACK : K.lookup aBACK = some ⟨.type "tuple", oBACK, .seq #[.str "back" tBACK] nBACK, sBACK⟩)
    (gChairError : PySem.W.nsIn K mainGlobals "ChairError" = some (some (.ref eChairError)))
    (xChairError : PySem.W.excIn K eChairError [.type "ValueError", .type "Exception", .type "BaseException", .type "object"] "ValueError.__new__" = true)
    (kChairError : PySem.W.keepIn K (.ref eChairError) = true)
    (bChairError : PySem.W.subIn K (.ref eChairError) (.type "BaseException") = some true)
    (tChairError : PySem.W.typeIn K (.ref eChairError) = some (.type "type"))
    (gNoName : PySem.W.nsIn K mainGlobals "NoName" = some (some (.ref eNoName)))
    (xNoName : PySem.W.excIn K eNoName [.type "ValueError", .type "Exception", .type "BaseException", .type "object"] "ValueError.__new__" = true)
    (kNoName : PySem.W.keepIn K (.ref eNoName) = true)
    (bNoName : PySem.W.subIn K (.ref eNoName) (.type "BaseException") = some true)
    (tNoName : PySem.W.typeIn K (.ref eNoName) = some (.type "type"))
    (gNoRoad : PySem.W.nsIn K mainGlobals "NoRoad" = some (some (.ref eNoRoad)))
    (xNoRoad : PySem.W.excIn K eNoRoad [.type "ValueError", .type "Exception", .type "BaseException", .type "object"] "ValueError.__new__" = true)
    (kNoRoad : PySem.W.keepIn K (.ref eNoRoad) = true)
    (bNoRoad : PySem.W.subIn K (.ref eNoRoad) (.type "BaseException") = some true)
    (tNoRoad : PySem.W.typeIn K (.ref eNoRoad) = some (.type "type"))
    (gNoLetter : PySem.W.nsIn K mainGlobals "NoLetter" = some (some (.ref eNoLetter)))
    (xNoLetter : PySem.W.excIn K eNoLetter [.type "ValueError", .type "Exception", .type "BaseException", .type "object"] "ValueError.__new__" = true)
    (kNoLetter : PySem.W.keepIn K (.ref eNoLetter) = true)
    (bNoLetter : PySem.W.subIn K (.ref eNoLetter) (.type "BaseException") = some true)
    (tNoLetter : PySem.W.typeIn K (.ref eNoLetter) = some (.type "type"))
    (gNotWished : PySem.W.nsIn K mainGlobals "NotWished" = some (some (.ref eNotWished)))
    (xNotWished : PySem.W.excIn K eNotWished [.type "ValueError", .type "Exception", .type "BaseException", .type "object"] "ValueError.__new__" = true)
    (kNotWished : PySem.W.keepIn K (.ref eNotWished) = true)
    (bNotWished : PySem.W.subIn K (.ref eNotWished) (.type "BaseException") = some true)
    (tNotWished : PySem.W.typeIn K (.ref eNotWished) = some (.type "type"))
    (gTwice : PySem.W.nsIn K mainGlobals "Twice" = some (some (.ref eTwice)))
    (xTwice : PySem.W.excIn K eTwice [.type "ValueError", .type "Exception", .type "BaseException", .type "object"] "ValueError.__new__" = true)
    (kTwice : PySem.W.keepIn K (.ref eTwice) = true)
    (bTwice : PySem.W.subIn K (.ref eTwice) (.type "BaseException") = some true)
    (tTwice : PySem.W.typeIn K (.ref eTwice) = some (.type "type"))
    (iChairError : PySem.W.isClsIn K eChairError = true)
    (sNoName : PySem.W.subIn K (.ref eNoName) (.ref eChairError) = some true)
    (sNoRoad : PySem.W.subIn K (.ref eNoRoad) (.ref eChairError) = some true)
    (sNoLetter : PySem.W.subIn K (.ref eNoLetter) (.ref eChairError) = some true)
    (sNotWished : PySem.W.subIn K (.ref eNotWished) (.ref eChairError) = some true)
    (sTwice : PySem.W.subIn K (.ref eTwice) (.ref eChairError) = some true)
    (b_isinstance : PySem.W.nsIn K mainGlobals "isinstance" = some none)
    (b_len : PySem.W.nsIn K mainGlobals "len" = some none)
    (b_all : PySem.W.nsIn K mainGlobals "all" = some none)
    (b_sorted : PySem.W.nsIn K mainGlobals "sorted" = some none)
    (b_list : PySem.W.nsIn K mainGlobals "list" = some none)
    (b_max : PySem.W.nsIn K mainGlobals "max" = some none)
    (b_min : PySem.W.nsIn K mainGlobals "min" = some none)
    (b_range : PySem.W.nsIn K mainGlobals "range" = some none)
    (b_repr : PySem.W.nsIn K mainGlobals "repr" = some none)
    (b_str : PySem.W.nsIn K mainGlobals "str" = some none)
    (b_tuple : PySem.W.nsIn K mainGlobals "tuple" = some none)
    (a_init : PySem.W.findIn K (.ref C) "__init__" = some (some (.ref f_init)))
    (i_init : PySem.W.isFn K (.ref f_init) = true)
    (l_init : K.lookup f_init = some ⟨oc_init, od_init, .func (PySem.W.fnOf "__init__" "Guest.__init__" (defArgs s_init) (defBody s_init) (defScope s_init) .none kV_init dc_init pm_init an_init cd_init ct_init), sl_init⟩)
    (c_init : PySem.W.codeIn K cd_init "Guest.__init__" = true)
    (k_init : PySem.W.keepIn K (.ref f_init) = true)
    (a_need_near : PySem.W.findIn K (.ref C) "need_near" = some (some (.ref f_need_near)))
    (i_need_near : PySem.W.isFn K (.ref f_need_near) = true)
    (l_need_near : K.lookup f_need_near = some ⟨oc_need_near, od_need_near, .func (PySem.W.fnOf "need_near" "Guest.need_near" (defArgs s_need_near) (defBody s_need_near) (defScope s_need_near) .none kV_need_near dc_need_near pm_need_near an_need_near cd_need_near ct_need_near), sl_need_near⟩)
    (c_need_near : PySem.W.codeIn K cd_need_near "Guest.need_near" = true)
    (k_need_near : PySem.W.keepIn K (.ref f_need_near) = true)
    (a_tell : PySem.W.findIn K (.ref C) "tell" = some (some (.ref f_tell)))
    (i_tell : PySem.W.isFn K (.ref f_tell) = true)
    (l_tell : K.lookup f_tell = some ⟨oc_tell, od_tell, .func (PySem.W.fnOf "tell" "Guest.tell" (defArgs s_tell) (defBody s_tell) (defScope s_tell) .none kV_tell dc_tell pm_tell an_tell cd_tell ct_tell), sl_tell⟩)
    (c_tell : PySem.W.codeIn K cd_tell "Guest.tell" = true)
    (k_tell : PySem.W.keepIn K (.ref f_tell) = true)
    (a_gone : PySem.W.findIn K (.ref C) "gone" = some (some (.ref f_gone)))
    (i_gone : PySem.W.isFn K (.ref f_gone) = true)
    (l_gone : K.lookup f_gone = some ⟨oc_gone, od_gone, .func (PySem.W.fnOf "gone" "Guest.gone" (defArgs s_gone) (defBody s_gone) (defScope s_gone) .none kV_gone dc_gone pm_gone an_gone cd_gone ct_gone), sl_gone⟩)
    (c_gone : PySem.W.codeIn K cd_gone "Guest.gone" = true)
    (k_gone : PySem.W.keepIn K (.ref f_gone) = true)
    (a_words_heard : PySem.W.findIn K (.ref C) "words_heard" = some (some (.ref f_words_heard)))
    (i_words_heard : PySem.W.isFn K (.ref f_words_heard) = true)
    (l_words_heard : K.lookup f_words_heard = some ⟨oc_words_heard, od_words_heard, .func (PySem.W.fnOf "words_heard" "Guest.words_heard" (defArgs s_words_heard) (defBody s_words_heard) (defScope s_words_heard) .none kV_words_heard dc_words_heard pm_words_heard an_words_heard cd_words_heard ct_words_heard), sl_words_heard⟩)
    (c_words_heard : PySem.W.codeIn K cd_words_heard "Guest.words_heard" = true)
    (k_words_heard : PySem.W.keepIn K (.ref f_words_heard) = true)
    (a_given : PySem.W.findIn K (.ref C) "given" = some (some (.ref f_given)))
    (i_given : PySem.W.isFn K (.ref f_given) = true)
    (l_given : K.lookup f_given = some ⟨oc_given, od_given, .func (PySem.W.fnOf "given" "Guest.given" (defArgs s_given) (defBody s_given) (defScope s_given) .none kV_given dc_given pm_given an_given cd_given ct_given), sl_given⟩)
    (c_given : PySem.W.codeIn K cd_given "Guest.given" = true)
    (k_given : PySem.W.keepIn K (.ref f_given) = true)
    (a_look : PySem.W.findIn K (.ref C) "look" = some (some (.ref f_look)))
    (i_look : PySem.W.isFn K (.ref f_look) = true)
    (l_look : K.lookup f_look = some ⟨oc_look, od_look, .func (PySem.W.fnOf "look" "Guest.look" (defArgs s_look) (defBody s_look) (defScope s_look) .none kV_look dc_look pm_look an_look cd_look ct_look), sl_look⟩)
    (c_look : PySem.W.codeIn K cd_look "Guest.look" = true)
    (k_look : PySem.W.keepIn K (.ref f_look) = true)
    (a_settle : PySem.W.findIn K (.ref C) "settle" = some (some (.ref f_settle)))
    (i_settle : PySem.W.isFn K (.ref f_settle) = true)
    (l_settle : K.lookup f_settle = some ⟨oc_settle, od_settle, .func (PySem.W.fnOf "settle" "Guest.settle" (defArgs s_settle) (defBody s_settle) (defScope s_settle) .none kV_settle dc_settle pm_settle an_settle cd_settle ct_settle), sl_settle⟩)
    (c_settle : PySem.W.codeIn K cd_settle "Guest.settle" = true)
    (k_settle : PySem.W.keepIn K (.ref f_settle) = true)
    (a_give_up : PySem.W.findIn K (.ref C) "give_up" = some (some (.ref f_give_up)))
    (i_give_up : PySem.W.isFn K (.ref f_give_up) = true)
    (l_give_up : K.lookup f_give_up = some ⟨oc_give_up, od_give_up, .func (PySem.W.fnOf "give_up" "Guest.give_up" (defArgs s_give_up) (defBody s_give_up) (defScope s_give_up) .none kV_give_up dc_give_up pm_give_up an_give_up cd_give_up ct_give_up), sl_give_up⟩)
    (c_give_up : PySem.W.codeIn K cd_give_up "Guest.give_up" = true)
    (k_give_up : PySem.W.keepIn K (.ref f_give_up) = true)
    (a_close : PySem.W.findIn K (.ref C) "close" = some (some (.ref f_close)))
    (i_close : PySem.W.isFn K (.ref f_close) = true)
    (l_close : K.lookup f_close = some ⟨oc_close, od_close, .func (PySem.W.fnOf "close" "Guest.close" (defArgs s_close) (defBody s_close) (defScope s_close) .none kV_close dc_close pm_close an_close cd_close ct_close), sl_close⟩)
    (c_close : PySem.W.codeIn K cd_close "Guest.close" = true)
    (k_close : PySem.W.keepIn K (.ref f_close) = true)
    (a_wish : PySem.W.findIn K (.ref C) "wish" = some (some (.ref f_wish)))
    (i_wish : PySem.W.isFn K (.ref f_wish) = true)
    (l_wish : K.lookup f_wish = some ⟨oc_wish, od_wish, .func (PySem.W.fnOf "wish" "Guest.wish" (defArgs s_wish) (defBody s_wish) (defScope s_wish) .none kV_wish dc_wish pm_wish an_wish cd_wish ct_wish), sl_wish⟩)
    (c_wish : PySem.W.codeIn K cd_wish "Guest.wish" = true)
    (k_wish : PySem.W.keepIn K (.ref f_wish) = true)
    (a_unwish : PySem.W.findIn K (.ref C) "unwish" = some (some (.ref f_unwish)))
    (i_unwish : PySem.W.isFn K (.ref f_unwish) = true)
    (l_unwish : K.lookup f_unwish = some ⟨oc_unwish, od_unwish, .func (PySem.W.fnOf "unwish" "Guest.unwish" (defArgs s_unwish) (defBody s_unwish) (defScope s_unwish) .none kV_unwish dc_unwish pm_unwish an_unwish cd_unwish ct_unwish), sl_unwish⟩)
    (c_unwish : PySem.W.codeIn K cd_unwish "Guest.unwish" = true)
    (k_unwish : PySem.W.keepIn K (.ref f_unwish) = true)
    (a_join : PySem.W.findIn K (.ref C) "join" = some (some (.ref f_join)))
    (i_join : PySem.W.isFn K (.ref f_join) = true)
    (l_join : K.lookup f_join = some ⟨oc_join, od_join, .func (PySem.W.fnOf "join" "Guest.join" (defArgs s_join) (defBody s_join) (defScope s_join) .none kV_join dc_join pm_join an_join cd_join ct_join), sl_join⟩)
    (c_join : PySem.W.codeIn K cd_join "Guest.join" = true)
    (k_join : PySem.W.keepIn K (.ref f_join) = true)
    (a_part : PySem.W.findIn K (.ref C) "part" = some (some (.ref f_part)))
    (i_part : PySem.W.isFn K (.ref f_part) = true)
    (l_part : K.lookup f_part = some ⟨oc_part, od_part, .func (PySem.W.fnOf "part" "Guest.part" (defArgs s_part) (defBody s_part) (defScope s_part) .none kV_part dc_part pm_part an_part cd_part ct_part), sl_part⟩)
    (c_part : PySem.W.codeIn K cd_part "Guest.part" = true)
    (k_part : PySem.W.keepIn K (.ref f_part) = true)
    (a_answered : PySem.W.findIn K (.ref C) "answered" = some (some (.ref f_answered)))
    (i_answered : PySem.W.isFn K (.ref f_answered) = true)
    (l_answered : K.lookup f_answered = some ⟨oc_answered, od_answered, .func (PySem.W.fnOf "answered" "Guest.answered" (defArgs s_answered) (defBody s_answered) (defScope s_answered) .none kV_answered dc_answered pm_answered an_answered cd_answered ct_answered), sl_answered⟩)
    (c_answered : PySem.W.codeIn K cd_answered "Guest.answered" = true)
    (k_answered : PySem.W.keepIn K (.ref f_answered) = true)
    (a_hear : PySem.W.findIn K (.ref C) "hear" = some (some (.ref f_hear)))
    (i_hear : PySem.W.isFn K (.ref f_hear) = true)
    (l_hear : K.lookup f_hear = some ⟨oc_hear, od_hear, .func (PySem.W.fnOf "hear" "Guest.hear" (defArgs s_hear) (defBody s_hear) (defScope s_hear) .none kV_hear dc_hear pm_hear an_hear cd_hear ct_hear), sl_hear⟩)
    (c_hear : PySem.W.codeIn K cd_hear "Guest.hear" = true)
    (k_hear : PySem.W.keepIn K (.ref f_hear) = true)
    (a_hear_word : PySem.W.findIn K (.ref C) "hear_word" = some (some (.ref f_hear_word)))
    (i_hear_word : PySem.W.isFn K (.ref f_hear_word) = true)
    (l_hear_word : K.lookup f_hear_word = some ⟨oc_hear_word, od_hear_word, .func (PySem.W.fnOf "hear_word" "Guest.hear_word" (defArgs s_hear_word) (defBody s_hear_word) (defScope s_hear_word) .none kV_hear_word dc_hear_word pm_hear_word an_hear_word cd_hear_word ct_hear_word), sl_hear_word⟩)
    (c_hear_word : PySem.W.codeIn K cd_hear_word "Guest.hear_word" = true)
    (k_hear_word : PySem.W.keepIn K (.ref f_hear_word) = true)
    (a_hear_open : PySem.W.findIn K (.ref C) "hear_open" = some (some (.ref f_hear_open)))
    (i_hear_open : PySem.W.isFn K (.ref f_hear_open) = true)
    (l_hear_open : K.lookup f_hear_open = some ⟨oc_hear_open, od_hear_open, .func (PySem.W.fnOf "hear_open" "Guest.hear_open" (defArgs s_hear_open) (defBody s_hear_open) (defScope s_hear_open) .none kV_hear_open dc_hear_open pm_hear_open an_hear_open cd_hear_open ct_hear_open), sl_hear_open⟩)
    (c_hear_open : PySem.W.codeIn K cd_hear_open "Guest.hear_open" = true)
    (k_hear_open : PySem.W.keepIn K (.ref f_hear_open) = true)
    (a_hear_chair : PySem.W.findIn K (.ref C) "hear_chair" = some (some (.ref f_hear_chair)))
    (i_hear_chair : PySem.W.isFn K (.ref f_hear_chair) = true)
    (l_hear_chair : K.lookup f_hear_chair = some ⟨oc_hear_chair, od_hear_chair, .func (PySem.W.fnOf "hear_chair" "Guest.hear_chair" (defArgs s_hear_chair) (defBody s_hear_chair) (defScope s_hear_chair) .none kV_hear_chair dc_hear_chair pm_hear_chair an_hear_chair cd_hear_chair ct_hear_chair), sl_hear_chair⟩)
    (c_hear_chair : PySem.W.codeIn K cd_hear_chair "Guest.hear_chair" = true)
    (k_hear_chair : PySem.W.keepIn K (.ref f_hear_chair) = true)
    (a_houses : PySem.W.findIn K (.ref C) "houses" = some (some (.ref f_houses)))
    (i_houses : PySem.W.isFn K (.ref f_houses) = true)
    (l_houses : K.lookup f_houses = some ⟨oc_houses, od_houses, .func (PySem.W.fnOf "houses" "Guest.houses" (defArgs s_houses) (defBody s_houses) (defScope s_houses) .none kV_houses dc_houses pm_houses an_houses cd_houses ct_houses), sl_houses⟩)
    (c_houses : PySem.W.codeIn K cd_houses "Guest.houses" = true)
    (k_houses : PySem.W.keepIn K (.ref f_houses) = true)
    (a_wishes : PySem.W.findIn K (.ref C) "wishes" = some (some (.ref f_wishes)))
    (i_wishes : PySem.W.isFn K (.ref f_wishes) = true)
    (l_wishes : K.lookup f_wishes = some ⟨oc_wishes, od_wishes, .func (PySem.W.fnOf "wishes" "Guest.wishes" (defArgs s_wishes) (defBody s_wishes) (defScope s_wishes) .none kV_wishes dc_wishes pm_wishes an_wishes cd_wishes ct_wishes), sl_wishes⟩)
    (c_wishes : PySem.W.codeIn K cd_wishes "Guest.wishes" = true)
    (k_wishes : PySem.W.keepIn K (.ref f_wishes) = true)
    (a_is_open : PySem.W.findIn K (.ref C) "is_open" = some (some (.ref f_is_open)))
    (i_is_open : PySem.W.isFn K (.ref f_is_open) = true)
    (l_is_open : K.lookup f_is_open = some ⟨oc_is_open, od_is_open, .func (PySem.W.fnOf "is_open" "Guest.is_open" (defArgs s_is_open) (defBody s_is_open) (defScope s_is_open) .none kV_is_open dc_is_open pm_is_open an_is_open cd_is_open ct_is_open), sl_is_open⟩)
    (c_is_open : PySem.W.codeIn K cd_is_open "Guest.is_open" = true)
    (k_is_open : PySem.W.keepIn K (.ref f_is_open) = true)
    (a_word : PySem.W.findIn K (.ref C) "word" = some (some (.ref f_word)))
    (i_word : PySem.W.isFn K (.ref f_word) = true)
    (l_word : K.lookup f_word = some ⟨oc_word, od_word, .func (PySem.W.fnOf "word" "Guest.word" (defArgs s_word) (defBody s_word) (defScope s_word) .none kV_word dc_word pm_word an_word cd_word ct_word), sl_word⟩)
    (c_word : PySem.W.codeIn K cd_word "Guest.word" = true)
    (k_word : PySem.W.keepIn K (.ref f_word) = true)
    (a_heard_of : PySem.W.findIn K (.ref C) "heard_of" = some (some (.ref f_heard_of)))
    (i_heard_of : PySem.W.isFn K (.ref f_heard_of) = true)
    (l_heard_of : K.lookup f_heard_of = some ⟨oc_heard_of, od_heard_of, .func (PySem.W.fnOf "heard_of" "Guest.heard_of" (defArgs s_heard_of) (defBody s_heard_of) (defScope s_heard_of) .none kV_heard_of dc_heard_of pm_heard_of an_heard_of cd_heard_of ct_heard_of), sl_heard_of⟩)
    (c_heard_of : PySem.W.codeIn K cd_heard_of "Guest.heard_of" = true)
    (k_heard_of : PySem.W.keepIn K (.ref f_heard_of) = true)
    (a_is_ahead : PySem.W.findIn K (.ref C) "is_ahead" = some (some (.ref f_is_ahead)))
    (i_is_ahead : PySem.W.isFn K (.ref f_is_ahead) = true)
    (l_is_ahead : K.lookup f_is_ahead = some ⟨oc_is_ahead, od_is_ahead, .func (PySem.W.fnOf "is_ahead" "Guest.is_ahead" (defArgs s_is_ahead) (defBody s_is_ahead) (defScope s_is_ahead) .none kV_is_ahead dc_is_ahead pm_is_ahead an_is_ahead cd_is_ahead ct_is_ahead), sl_is_ahead⟩)
    (c_is_ahead : PySem.W.codeIn K cd_is_ahead "Guest.is_ahead" = true)
    (k_is_ahead : PySem.W.keepIn K (.ref f_is_ahead) = true)
    (a_chairs : PySem.W.findIn K (.ref C) "chairs" = some (some (.ref f_chairs)))
    (i_chairs : PySem.W.isFn K (.ref f_chairs) = true)
    (l_chairs : K.lookup f_chairs = some ⟨oc_chairs, od_chairs, .func (PySem.W.fnOf "chairs" "Guest.chairs" (defArgs s_chairs) (defBody s_chairs) (defScope s_chairs) .none kV_chairs dc_chairs pm_chairs an_chairs cd_chairs ct_chairs), sl_chairs⟩)
    (c_chairs : PySem.W.codeIn K cd_chairs "Guest.chairs" = true)
    (k_chairs : PySem.W.keepIn K (.ref f_chairs) = true)
    (a_awaited : PySem.W.findIn K (.ref C) "awaited" = some (some (.ref f_awaited)))
    (i_awaited : PySem.W.isFn K (.ref f_awaited) = true)
    (l_awaited : K.lookup f_awaited = some ⟨oc_awaited, od_awaited, .func (PySem.W.fnOf "awaited" "Guest.awaited" (defArgs s_awaited) (defBody s_awaited) (defScope s_awaited) .none kV_awaited dc_awaited pm_awaited an_awaited cd_awaited ct_awaited), sl_awaited⟩)
    (c_awaited : PySem.W.codeIn K cd_awaited "Guest.awaited" = true)
    (k_awaited : PySem.W.keepIn K (.ref f_awaited) = true)
    (a_owed : PySem.W.findIn K (.ref C) "owed" = some (some (.ref f_owed)))
    (i_owed : PySem.W.isFn K (.ref f_owed) = true)
    (l_owed : K.lookup f_owed = some ⟨oc_owed, od_owed, .func (PySem.W.fnOf "owed" "Guest.owed" (defArgs s_owed) (defBody s_owed) (defScope s_owed) .none kV_owed dc_owed pm_owed an_owed cd_owed ct_owed), sl_owed⟩)
    (c_owed : PySem.W.codeIn K cd_owed "Guest.owed" = true)
    (k_owed : PySem.W.keepIn K (.ref f_owed) = true)
    (a_cause : PySem.W.findIn K (.ref C) "cause" = some (some (.ref f_cause)))
    (i_cause : PySem.W.isFn K (.ref f_cause) = true)
    (l_cause : K.lookup f_cause = some ⟨oc_cause, od_cause, .func (PySem.W.fnOf "cause" "Guest.cause" (defArgs s_cause) (defBody s_cause) (defScope s_cause) .none kV_cause dc_cause pm_cause an_cause cd_cause ct_cause), sl_cause⟩)
    (c_cause : PySem.W.codeIn K cd_cause "Guest.cause" = true)
    (k_cause : PySem.W.keepIn K (.ref f_cause) = true)
    (a_turns : PySem.W.findIn K (.ref C) "turns" = some (some (.ref f_turns)))
    (i_turns : PySem.W.isFn K (.ref f_turns) = true)
    (l_turns : K.lookup f_turns = some ⟨oc_turns, od_turns, .func (PySem.W.fnOf "turns" "Guest.turns" (defArgs s_turns) (defBody s_turns) (defScope s_turns) .none kV_turns dc_turns pm_turns an_turns cd_turns ct_turns), sl_turns⟩)
    (c_turns : PySem.W.codeIn K cd_turns "Guest.turns" = true)
    (k_turns : PySem.W.keepIn K (.ref f_turns) = true)
    (a_is_name : PySem.W.nsIn K mainGlobals "is_name" = some (some (.ref f_is_name)))
    (l_is_name : K.lookup f_is_name = some ⟨oc_is_name, od_is_name, .func (PySem.W.fnOf "is_name" "is_name" (defArgs s_is_name) (defBody s_is_name) (defScope s_is_name) .none kV_is_name dc_is_name pm_is_name an_is_name cd_is_name ct_is_name), sl_is_name⟩)
    (c_is_name : PySem.W.codeIn K cd_is_name "is_name" = true)
    (k_is_name : PySem.W.keepIn K (.ref f_is_name) = true)
    (a_is_letter : PySem.W.nsIn K mainGlobals "is_letter" = some (some (.ref f_is_letter)))
    (l_is_letter : K.lookup f_is_letter = some ⟨oc_is_letter, od_is_letter, .func (PySem.W.fnOf "is_letter" "is_letter" (defArgs s_is_letter) (defBody s_is_letter) (defScope s_is_letter) .none kV_is_letter dc_is_letter pm_is_letter an_is_letter cd_is_letter ct_is_letter), sl_is_letter⟩)
    (c_is_letter : PySem.W.codeIn K cd_is_letter "is_letter" = true)
    (k_is_letter : PySem.W.keepIn K (.ref f_is_letter) = true)
    (a_l_pot : PySem.W.nsIn K mainGlobals "_law_pot" = some (some (.ref f_l_pot)))
    (l_l_pot : K.lookup f_l_pot = some ⟨oc_l_pot, od_l_pot, .func (PySem.W.fnOf "_law_pot" "_law_pot" (defArgs s_l_pot) (defBody s_l_pot) (defScope s_l_pot) .none kV_l_pot dc_l_pot pm_l_pot an_l_pot cd_l_pot ct_l_pot), sl_l_pot⟩)
    (c_l_pot : PySem.W.codeIn K cd_l_pot "_law_pot" = true)
    (k_l_pot : PySem.W.keepIn K (.ref f_l_pot) = true)
    (a_l_dip : PySem.W.nsIn K mainGlobals "_law_dip" = some (some (.ref f_l_dip)))
    (l_l_dip : K.lookup f_l_dip = some ⟨oc_l_dip, od_l_dip, .func (PySem.W.fnOf "_law_dip" "_law_dip" (defArgs s_l_dip) (defBody s_l_dip) (defScope s_l_dip) .none kV_l_dip dc_l_dip pm_l_dip an_l_dip cd_l_dip ct_l_dip), sl_l_dip⟩)
    (c_l_dip : PySem.W.codeIn K cd_l_dip "_law_dip" = true)
    (k_l_dip : PySem.W.keepIn K (.ref f_l_dip) = true)
    (a_l_names : PySem.W.nsIn K mainGlobals "_law_names" = some (some (.ref f_l_names)))
    (l_l_names : K.lookup f_l_names = some ⟨oc_l_names, od_l_names, .func (PySem.W.fnOf "_law_names" "_law_names" (defArgs s_l_names) (defBody s_l_names) (defScope s_l_names) .none kV_l_names dc_l_names pm_l_names an_l_names cd_l_names ct_l_names), sl_l_names⟩)
    (c_l_names : PySem.W.codeIn K cd_l_names "_law_names" = true)
    (k_l_names : PySem.W.keepIn K (.ref f_l_names) = true)
    (a_l_done : PySem.W.nsIn K mainGlobals "_law_done" = some (some (.ref f_l_done)))
    (l_l_done : K.lookup f_l_done = some ⟨oc_l_done, od_l_done, .func (PySem.W.fnOf "_law_done" "_law_done" (defArgs s_l_done) (defBody s_l_done) (defScope s_l_done) .none kV_l_done dc_l_done pm_l_done an_l_done cd_l_done ct_l_done), sl_l_done⟩)
    (c_l_done : PySem.W.codeIn K cd_l_done "_law_done" = true)
    (k_l_done : PySem.W.keepIn K (.ref f_l_done) = true)
    (a_l_what : PySem.W.nsIn K mainGlobals "_law_what" = some (some (.ref f_l_what)))
    (l_l_what : K.lookup f_l_what = some ⟨oc_l_what, od_l_what, .func (PySem.W.fnOf "_law_what" "_law_what" (defArgs s_l_what) (defBody s_l_what) (defScope s_l_what) .none kV_l_what dc_l_what pm_l_what an_l_what cd_l_what ct_l_what), sl_l_what⟩)
    (c_l_what : PySem.W.codeIn K cd_l_what "_law_what" = true)
    (k_l_what : PySem.W.keepIn K (.ref f_l_what) = true)
    (a_l_new : PySem.W.nsIn K mainGlobals "_law_new" = some (some (.ref f_l_new)))
    (l_l_new : K.lookup f_l_new = some ⟨oc_l_new, od_l_new, .func (PySem.W.fnOf "_law_new" "_law_new" (defArgs s_l_new) (defBody s_l_new) (defScope s_l_new) .none kV_l_new dc_l_new pm_l_new an_l_new cd_l_new ct_l_new), sl_l_new⟩)
    (c_l_new : PySem.W.codeIn K cd_l_new "_law_new" = true)
    (k_l_new : PySem.W.keepIn K (.ref f_l_new) = true)
    (a_l_given : PySem.W.nsIn K mainGlobals "_law_given" = some (some (.ref f_l_given)))
    (l_l_given : K.lookup f_l_given = some ⟨oc_l_given, od_l_given, .func (PySem.W.fnOf "_law_given" "_law_given" (defArgs s_l_given) (defBody s_l_given) (defScope s_l_given) .none kV_l_given dc_l_given pm_l_given an_l_given cd_l_given ct_l_given), sl_l_given⟩)
    (c_l_given : PySem.W.codeIn K cd_l_given "_law_given" = true)
    (k_l_given : PySem.W.keepIn K (.ref f_l_given) = true)
    (a_l_look : PySem.W.nsIn K mainGlobals "_law_look" = some (some (.ref f_l_look)))
    (l_l_look : K.lookup f_l_look = some ⟨oc_l_look, od_l_look, .func (PySem.W.fnOf "_law_look" "_law_look" (defArgs s_l_look) (defBody s_l_look) (defScope s_l_look) .none kV_l_look dc_l_look pm_l_look an_l_look cd_l_look ct_l_look), sl_l_look⟩)
    (c_l_look : PySem.W.codeIn K cd_l_look "_law_look" = true)
    (k_l_look : PySem.W.keepIn K (.ref f_l_look) = true)
    (a_l_shut : PySem.W.nsIn K mainGlobals "_law_shut" = some (some (.ref f_l_shut)))
    (l_l_shut : K.lookup f_l_shut = some ⟨oc_l_shut, od_l_shut, .func (PySem.W.fnOf "_law_shut" "_law_shut" (defArgs s_l_shut) (defBody s_l_shut) (defScope s_l_shut) .none kV_l_shut dc_l_shut pm_l_shut an_l_shut cd_l_shut ct_l_shut), sl_l_shut⟩)
    (c_l_shut : PySem.W.codeIn K cd_l_shut "_law_shut" = true)
    (k_l_shut : PySem.W.keepIn K (.ref f_l_shut) = true)
    (a_l_joined : PySem.W.nsIn K mainGlobals "_law_joined" = some (some (.ref f_l_joined)))
    (l_l_joined : K.lookup f_l_joined = some ⟨oc_l_joined, od_l_joined, .func (PySem.W.fnOf "_law_joined" "_law_joined" (defArgs s_l_joined) (defBody s_l_joined) (defScope s_l_joined) .none kV_l_joined dc_l_joined pm_l_joined an_l_joined cd_l_joined ct_l_joined), sl_l_joined⟩)
    (c_l_joined : PySem.W.codeIn K cd_l_joined "_law_joined" = true)
    (k_l_joined : PySem.W.keepIn K (.ref f_l_joined) = true)
    (a_l_parted : PySem.W.nsIn K mainGlobals "_law_parted" = some (some (.ref f_l_parted)))
    (l_l_parted : K.lookup f_l_parted = some ⟨oc_l_parted, od_l_parted, .func (PySem.W.fnOf "_law_parted" "_law_parted" (defArgs s_l_parted) (defBody s_l_parted) (defScope s_l_parted) .none kV_l_parted dc_l_parted pm_l_parted an_l_parted cd_l_parted ct_l_parted), sl_l_parted⟩)
    (c_l_parted : PySem.W.codeIn K cd_l_parted "_law_parted" = true)
    (k_l_parted : PySem.W.keepIn K (.ref f_l_parted) = true)
    (a_l_opened : PySem.W.nsIn K mainGlobals "_law_opened" = some (some (.ref f_l_opened)))
    (l_l_opened : K.lookup f_l_opened = some ⟨oc_l_opened, od_l_opened, .func (PySem.W.fnOf "_law_opened" "_law_opened" (defArgs s_l_opened) (defBody s_l_opened) (defScope s_l_opened) .none kV_l_opened dc_l_opened pm_l_opened an_l_opened cd_l_opened ct_l_opened), sl_l_opened⟩)
    (c_l_opened : PySem.W.codeIn K cd_l_opened "_law_opened" = true)
    (k_l_opened : PySem.W.keepIn K (.ref f_l_opened) = true)
    (a_l_hears : PySem.W.nsIn K mainGlobals "_law_hears" = some (some (.ref f_l_hears)))
    (l_l_hears : K.lookup f_l_hears = some ⟨oc_l_hears, od_l_hears, .func (PySem.W.fnOf "_law_hears" "_law_hears" (defArgs s_l_hears) (defBody s_l_hears) (defScope s_l_hears) .none kV_l_hears dc_l_hears pm_l_hears an_l_hears cd_l_hears ct_l_hears), sl_l_hears⟩)
    (c_l_hears : PySem.W.codeIn K cd_l_hears "_law_hears" = true)
    (k_l_hears : PySem.W.keepIn K (.ref f_l_hears) = true)
    (a_l_did : PySem.W.nsIn K mainGlobals "_law_did" = some (some (.ref f_l_did)))
    (l_l_did : K.lookup f_l_did = some ⟨oc_l_did, od_l_did, .func (PySem.W.fnOf "_law_did" "_law_did" (defArgs s_l_did) (defBody s_l_did) (defScope s_l_did) .none kV_l_did dc_l_did pm_l_did an_l_did cd_l_did ct_l_did), sl_l_did⟩)
    (c_l_did : PySem.W.codeIn K cd_l_did "_law_did" = true)
    (k_l_did : PySem.W.keepIn K (.ref f_l_did) = true)
    (a_l_alike : PySem.W.nsIn K mainGlobals "_law_alike" = some (some (.ref f_l_alike)))
    (l_l_alike : K.lookup f_l_alike = some ⟨oc_l_alike, od_l_alike, .func (PySem.W.fnOf "_law_alike" "_law_alike" (defArgs s_l_alike) (defBody s_l_alike) (defScope s_l_alike) .none kV_l_alike dc_l_alike pm_l_alike an_l_alike cd_l_alike ct_l_alike), sl_l_alike⟩)
    (c_l_alike : PySem.W.codeIn K cd_l_alike "_law_alike" = true)
    (k_l_alike : PySem.W.keepIn K (.ref f_l_alike) = true)
    (a_l_houses : PySem.W.nsIn K mainGlobals "_law_houses" = some (some (.ref f_l_houses)))
    (l_l_houses : K.lookup f_l_houses = some ⟨oc_l_houses, od_l_houses, .func (PySem.W.fnOf "_law_houses" "_law_houses" (defArgs s_l_houses) (defBody s_l_houses) (defScope s_l_houses) .none kV_l_houses dc_l_houses pm_l_houses an_l_houses cd_l_houses ct_l_houses), sl_l_houses⟩)
    (c_l_houses : PySem.W.codeIn K cd_l_houses "_law_houses" = true)
    (k_l_houses : PySem.W.keepIn K (.ref f_l_houses) = true)
    (a_l_road : PySem.W.nsIn K mainGlobals "_law_road" = some (some (.ref f_l_road)))
    (l_l_road : K.lookup f_l_road = some ⟨oc_l_road, od_l_road, .func (PySem.W.fnOf "_law_road" "_law_road" (defArgs s_l_road) (defBody s_l_road) (defScope s_l_road) .none kV_l_road dc_l_road pm_l_road an_l_road cd_l_road ct_l_road), sl_l_road⟩)
    (c_l_road : PySem.W.codeIn K cd_l_road "_law_road" = true)
    (k_l_road : PySem.W.keepIn K (.ref f_l_road) = true)
    (a_law : PySem.W.nsIn K mainGlobals "law" = some (some (.ref f_law)))
    (l_law : K.lookup f_law = some ⟨oc_law, od_law, .func (PySem.W.fnOf "law" "law" (defArgs s_law) (defBody s_law) (defScope s_law) .none kV_law dc_law pm_law an_law cd_law ct_law), sl_law⟩)
    (c_law : PySem.W.codeIn K cd_law "law" = true)
    (k_law : PySem.W.keepIn K (.ref f_law) = true)
    : Tx K mg :=
  { gIN := ⟨_, PySem.W.mg_of X G zIN⟩
    gOUT := ⟨_, PySem.W.mg_of X G zOUT⟩
    gCLEAR := ⟨_, PySem.W.mg_of X G zCLEAR⟩
    gBARRED := ⟨_, PySem.W.mg_of X G zBARRED⟩
    gWORD := ⟨_, PySem.W.mg_of X G zWORD⟩
    gLETTERS := ⟨_, PySem.W.mg_of X G zLETTERS⟩
    gMOST := ⟨_, PySem.W.mg_of X G zMOST⟩
    kOPEN := kt_of X G gOPEN lOPEN
    kHEARD := kt_of X G gHEARD lHEARD
    kCHAIR := kt_of X G gCHAIR lCHAIR
    kBACK := kt_of X G gBACK lBACK
    eChairError := ⟨eChairError, PySem.W.mg_of X G gChairError, xChairError, kChairError, bChairError, tChairError⟩
    eNoName := ⟨eNoName, PySem.W.mg_of X G gNoName, xNoName, kNoName, bNoName, tNoName⟩
    eNoRoad := ⟨eNoRoad, PySem.W.mg_of X G gNoRoad, xNoRoad, kNoRoad, bNoRoad, tNoRoad⟩
    eNoLetter := ⟨eNoLetter, PySem.W.mg_of X G gNoLetter, xNoLetter, kNoLetter, bNoLetter, tNoLetter⟩
    eNotWished := ⟨eNotWished, PySem.W.mg_of X G gNotWished, xNotWished, kNotWished, bNotWished, tNotWished⟩
    eTwice := ⟨eTwice, PySem.W.mg_of X G gTwice, xTwice, kTwice, bTwice, tTwice⟩
    xNoName := exm_up bChairError iChairError tChairError sNoName
    xNoRoad := exm_up bChairError iChairError tChairError sNoRoad
    xNoLetter := exm_up bChairError iChairError tChairError sNoLetter
    xNotWished := exm_up bChairError iChairError tChairError sNotWished
    xTwice := exm_up bChairError iChairError tChairError sTwice
    b_isinstance := PySem.W.mg_none_of X G b_isinstance
    b_len := PySem.W.mg_none_of X G b_len
    b_all := PySem.W.mg_none_of X G b_all
    b_sorted := PySem.W.mg_none_of X G b_sorted
    b_list := PySem.W.mg_none_of X G b_list
    b_max := PySem.W.mg_none_of X G b_max
    b_min := PySem.W.mg_none_of X G b_min
    b_range := PySem.W.mg_none_of X G b_range
    b_repr := PySem.W.mg_none_of X G b_repr
    b_str := PySem.W.mg_none_of X G b_str
    b_tuple := PySem.W.mg_none_of X G b_tuple
    C := C
    cl := ⟨cPg, cHd, cPo, cSa⟩
    gC := PySem.W.mg_of X G gC
    n_own := n_own
    n_wished := n_wished
    n_near := n_near
    n_ears := n_ears
    n_mark := n_mark
    n_since := n_since
    n_opened := n_opened
    n_source := n_source
    n_knows := n_knows
    n_waits := n_waits
    n_debts := n_debts
    n_seats := n_seats
    n_past := n_past
    n_going := n_going
    d_init := ⟨f_init, _, fun_mk (st := s_init) l_init c_init k_init, (fun_mk (st := s_init) l_init c_init k_init).binds (ps := ["self", "name"]) fun _ _ _ _ _ _ us hl => match us, hl with | [_, _], _ => rfl⟩
    mkC := ⟨cMk, a_init, i_init, cKp⟩
    d_need_near := ⟨f_need_near, _, fun_mk (st := s_need_near) l_need_near c_need_near k_need_near, (fun_mk (st := s_need_near) l_need_near c_need_near k_need_near).binds (ps := ["self", "house"]) fun _ _ _ _ _ _ us hl => match us, hl with | [_, _], _ => rfl⟩
    m_need_near := ⟨a_need_near, i_need_near, k_need_near⟩
    d_tell := ⟨f_tell, _, fun_mk (st := s_tell) l_tell c_tell k_tell, (fun_mk (st := s_tell) l_tell c_tell k_tell).binds (ps := ["self", "house", "letter"]) fun _ _ _ _ _ _ us hl => match us, hl with | [_, _, _], _ => rfl⟩
    m_tell := ⟨a_tell, i_tell, k_tell⟩
    d_gone := ⟨f_gone, _, fun_mk (st := s_gone) l_gone c_gone k_gone, (fun_mk (st := s_gone) l_gone c_gone k_gone).binds (ps := ["self"]) fun _ _ _ _ _ _ us hl => match us, hl with | [_], _ => rfl⟩
    m_gone := ⟨a_gone, i_gone, k_gone⟩
    d_words_heard := ⟨f_words_heard, _, fun_mk (st := s_words_heard) l_words_heard c_words_heard k_words_heard, (fun_mk (st := s_words_heard) l_words_heard c_words_heard k_words_heard).binds (ps := ["self", "is_ahead"]) fun _ _ _ _ _ _ us hl => match us, hl with | [_, _], _ => rfl⟩
    m_words_heard := ⟨a_words_heard, i_words_heard, k_words_heard⟩
    d_given := ⟨f_given, _, fun_mk (st := s_given) l_given c_given k_given, (fun_mk (st := s_given) l_given c_given k_given).binds (ps := ["self", "is_ahead"]) fun _ _ _ _ _ _ us hl => match us, hl with | [_, _], _ => rfl⟩
    m_given := ⟨a_given, i_given, k_given⟩
    d_look := ⟨f_look, _, fun_mk (st := s_look) l_look c_look k_look, (fun_mk (st := s_look) l_look c_look k_look).binds (ps := ["self", "house"]) fun _ _ _ _ _ _ us hl => match us, hl with | [_, _], _ => rfl⟩
    m_look := ⟨a_look, i_look, k_look⟩
    d_settle := ⟨f_settle, _, fun_mk (st := s_settle) l_settle c_settle k_settle, (fun_mk (st := s_settle) l_settle c_settle k_settle).binds (ps := ["self", "word"]) fun _ _ _ _ _ _ us hl => match us, hl with | [_, _], _ => rfl⟩
    m_settle := ⟨a_settle, i_settle, k_settle⟩
    d_give_up := ⟨f_give_up, _, fun_mk (st := s_give_up) l_give_up c_give_up k_give_up, (fun_mk (st := s_give_up) l_give_up c_give_up k_give_up).binds (ps := ["self", "house"]) fun _ _ _ _ _ _ us hl => match us, hl with | [_, _], _ => rfl⟩
    m_give_up := ⟨a_give_up, i_give_up, k_give_up⟩
    d_close := ⟨f_close, _, fun_mk (st := s_close) l_close c_close k_close, (fun_mk (st := s_close) l_close c_close k_close).binds (ps := ["self"]) fun _ _ _ _ _ _ us hl => match us, hl with | [_], _ => rfl⟩
    m_close := ⟨a_close, i_close, k_close⟩
    d_wish := ⟨f_wish, _, fun_mk (st := s_wish) l_wish c_wish k_wish, (fun_mk (st := s_wish) l_wish c_wish k_wish).binds (ps := ["self"]) fun _ _ _ _ _ _ us hl => match us, hl with | [_], _ => rfl⟩
    m_wish := ⟨a_wish, i_wish, k_wish⟩
    d_unwish := ⟨f_unwish, _, fun_mk (st := s_unwish) l_unwish c_unwish k_unwish, (fun_mk (st := s_unwish) l_unwish c_unwish k_unwish).binds (ps := ["self"]) fun _ _ _ _ _ _ us hl => match us, hl with | [_], _ => rfl⟩
    m_unwish := ⟨a_unwish, i_unwish, k_unwish⟩
    d_join := ⟨f_join, _, fun_mk (st := s_join) l_join c_join k_join, (fun_mk (st := s_join) l_join c_join k_join).binds (ps := ["self", "house"]) fun _ _ _ _ _ _ us hl => match us, hl with | [_, _], _ => rfl⟩
    m_join := ⟨a_join, i_join, k_join⟩
    d_part := ⟨f_part, _, fun_mk (st := s_part) l_part c_part k_part, (fun_mk (st := s_part) l_part c_part k_part).binds (ps := ["self", "house"]) fun _ _ _ _ _ _ us hl => match us, hl with | [_, _], _ => rfl⟩
    m_part := ⟨a_part, i_part, k_part⟩
    d_answered := ⟨f_answered, _, fun_mk (st := s_answered) l_answered c_answered k_answered, (fun_mk (st := s_answered) l_answered c_answered k_answered).binds (ps := ["self", "house"]) fun _ _ _ _ _ _ us hl => match us, hl with | [_, _], _ => rfl⟩
    m_answered := ⟨a_answered, i_answered, k_answered⟩
    d_hear := ⟨f_hear, _, fun_mk (st := s_hear) l_hear c_hear k_hear, (fun_mk (st := s_hear) l_hear c_hear k_hear).binds (ps := ["self", "house", "letter"]) fun _ _ _ _ _ _ us hl => match us, hl with | [_, _, _], _ => rfl⟩
    m_hear := ⟨a_hear, i_hear, k_hear⟩
    d_hear_word := ⟨f_hear_word, _, fun_mk (st := s_hear_word) l_hear_word c_hear_word k_hear_word, (fun_mk (st := s_hear_word) l_hear_word c_hear_word k_hear_word).binds (ps := ["self", "house", "word"]) fun _ _ _ _ _ _ us hl => match us, hl with | [_, _, _], _ => rfl⟩
    m_hear_word := ⟨a_hear_word, i_hear_word, k_hear_word⟩
    d_hear_open := ⟨f_hear_open, _, fun_mk (st := s_hear_open) l_hear_open c_hear_open k_hear_open, (fun_mk (st := s_hear_open) l_hear_open c_hear_open k_hear_open).binds (ps := ["self", "house"]) fun _ _ _ _ _ _ us hl => match us, hl with | [_, _], _ => rfl⟩
    m_hear_open := ⟨a_hear_open, i_hear_open, k_hear_open⟩
    d_hear_chair := ⟨f_hear_chair, _, fun_mk (st := s_hear_chair) l_hear_chair c_hear_chair k_hear_chair, (fun_mk (st := s_hear_chair) l_hear_chair c_hear_chair k_hear_chair).binds (ps := ["self", "house"]) fun _ _ _ _ _ _ us hl => match us, hl with | [_, _], _ => rfl⟩
    m_hear_chair := ⟨a_hear_chair, i_hear_chair, k_hear_chair⟩
    d_houses := ⟨f_houses, _, fun_mk (st := s_houses) l_houses c_houses k_houses, (fun_mk (st := s_houses) l_houses c_houses k_houses).binds (ps := ["self"]) fun _ _ _ _ _ _ us hl => match us, hl with | [_], _ => rfl⟩
    m_houses := ⟨a_houses, i_houses, k_houses⟩
    d_wishes := ⟨f_wishes, _, fun_mk (st := s_wishes) l_wishes c_wishes k_wishes, (fun_mk (st := s_wishes) l_wishes c_wishes k_wishes).binds (ps := ["self"]) fun _ _ _ _ _ _ us hl => match us, hl with | [_], _ => rfl⟩
    m_wishes := ⟨a_wishes, i_wishes, k_wishes⟩
    d_is_open := ⟨f_is_open, _, fun_mk (st := s_is_open) l_is_open c_is_open k_is_open, (fun_mk (st := s_is_open) l_is_open c_is_open k_is_open).binds (ps := ["self"]) fun _ _ _ _ _ _ us hl => match us, hl with | [_], _ => rfl⟩
    m_is_open := ⟨a_is_open, i_is_open, k_is_open⟩
    d_word := ⟨f_word, _, fun_mk (st := s_word) l_word c_word k_word, (fun_mk (st := s_word) l_word c_word k_word).binds (ps := ["self"]) fun _ _ _ _ _ _ us hl => match us, hl with | [_], _ => rfl⟩
    m_word := ⟨a_word, i_word, k_word⟩
    d_heard_of := ⟨f_heard_of, _, fun_mk (st := s_heard_of) l_heard_of c_heard_of k_heard_of, (fun_mk (st := s_heard_of) l_heard_of c_heard_of k_heard_of).binds (ps := ["self", "house"]) fun _ _ _ _ _ _ us hl => match us, hl with | [_, _], _ => rfl⟩
    m_heard_of := ⟨a_heard_of, i_heard_of, k_heard_of⟩
    d_is_ahead := ⟨f_is_ahead, _, fun_mk (st := s_is_ahead) l_is_ahead c_is_ahead k_is_ahead, (fun_mk (st := s_is_ahead) l_is_ahead c_is_ahead k_is_ahead).binds (ps := ["self", "house"]) fun _ _ _ _ _ _ us hl => match us, hl with | [_, _], _ => rfl⟩
    m_is_ahead := ⟨a_is_ahead, i_is_ahead, k_is_ahead⟩
    d_chairs := ⟨f_chairs, _, fun_mk (st := s_chairs) l_chairs c_chairs k_chairs, (fun_mk (st := s_chairs) l_chairs c_chairs k_chairs).binds (ps := ["self"]) fun _ _ _ _ _ _ us hl => match us, hl with | [_], _ => rfl⟩
    m_chairs := ⟨a_chairs, i_chairs, k_chairs⟩
    d_awaited := ⟨f_awaited, _, fun_mk (st := s_awaited) l_awaited c_awaited k_awaited, (fun_mk (st := s_awaited) l_awaited c_awaited k_awaited).binds (ps := ["self"]) fun _ _ _ _ _ _ us hl => match us, hl with | [_], _ => rfl⟩
    m_awaited := ⟨a_awaited, i_awaited, k_awaited⟩
    d_owed := ⟨f_owed, _, fun_mk (st := s_owed) l_owed c_owed k_owed, (fun_mk (st := s_owed) l_owed c_owed k_owed).binds (ps := ["self"]) fun _ _ _ _ _ _ us hl => match us, hl with | [_], _ => rfl⟩
    m_owed := ⟨a_owed, i_owed, k_owed⟩
    d_cause := ⟨f_cause, _, fun_mk (st := s_cause) l_cause c_cause k_cause, (fun_mk (st := s_cause) l_cause c_cause k_cause).binds (ps := ["self"]) fun _ _ _ _ _ _ us hl => match us, hl with | [_], _ => rfl⟩
    m_cause := ⟨a_cause, i_cause, k_cause⟩
    d_turns := ⟨f_turns, _, fun_mk (st := s_turns) l_turns c_turns k_turns, (fun_mk (st := s_turns) l_turns c_turns k_turns).binds (ps := ["self"]) fun _ _ _ _ _ _ us hl => match us, hl with | [_], _ => rfl⟩
    m_turns := ⟨a_turns, i_turns, k_turns⟩
    d_is_name := ⟨f_is_name, _, fun_mk (st := s_is_name) l_is_name c_is_name k_is_name, (fun_mk (st := s_is_name) l_is_name c_is_name k_is_name).binds (ps := ["thing"]) fun _ _ _ _ _ _ us hl => match us, hl with | [_], _ => rfl⟩
    g_is_name := PySem.W.mg_of X G a_is_name
    d_is_letter := ⟨f_is_letter, _, fun_mk (st := s_is_letter) l_is_letter c_is_letter k_is_letter, (fun_mk (st := s_is_letter) l_is_letter c_is_letter k_is_letter).binds (ps := ["thing"]) fun _ _ _ _ _ _ us hl => match us, hl with | [_], _ => rfl⟩
    g_is_letter := PySem.W.mg_of X G a_is_letter
    d_l_pot := ⟨f_l_pot, _, fun_mk (st := s_l_pot) l_l_pot c_l_pot k_l_pot, (fun_mk (st := s_l_pot) l_l_pot c_l_pot k_l_pot).binds (ps := ["_law_script", "_law_k"]) fun _ _ _ _ _ _ us hl => match us, hl with | [_, _], _ => rfl⟩
    g_l_pot := PySem.W.mg_of X G a_l_pot
    d_l_dip := ⟨f_l_dip, _, fun_mk (st := s_l_dip) l_l_dip c_l_dip k_l_dip, (fun_mk (st := s_l_dip) l_l_dip c_l_dip k_l_dip).binds (ps := ["_law_pot_here", "_law_many"]) fun _ _ _ _ _ _ us hl => match us, hl with | [_, _], _ => rfl⟩
    g_l_dip := PySem.W.mg_of X G a_l_dip
    d_l_names := ⟨f_l_names, _, fun_mk (st := s_l_names) l_l_names c_l_names k_l_names, (fun_mk (st := s_l_names) l_l_names c_l_names k_l_names).binds (ps := ["_law_pot_here", "_law_many"]) fun _ _ _ _ _ _ us hl => match us, hl with | [_, _], _ => rfl⟩
    g_l_names := PySem.W.mg_of X G a_l_names
    d_l_done := ⟨f_l_done, _, fun_mk (st := s_l_done) l_l_done c_l_done k_l_done, (fun_mk (st := s_l_done) l_l_done c_l_done k_l_done).binds (ps := ["_law_guest", "_law_what_here"]) fun _ _ _ _ _ _ us hl => match us, hl with | [_, _], _ => rfl⟩
    g_l_done := PySem.W.mg_of X G a_l_done
    d_l_what := ⟨f_l_what, _, fun_mk (st := s_l_what) l_l_what c_l_what k_l_what, (fun_mk (st := s_l_what) l_l_what c_l_what k_l_what).binds (ps := ["_law_pot_here", "_law_guest", "_law_houses_here"]) fun _ _ _ _ _ _ us hl => match us, hl with | [_, _, _], _ => rfl⟩
    g_l_what := PySem.W.mg_of X G a_l_what
    d_l_new := ⟨f_l_new, _, fun_mk (st := s_l_new) l_l_new c_l_new k_l_new, (fun_mk (st := s_l_new) l_l_new c_l_new k_l_new).binds (ps := ["_law_name"]) fun _ _ _ _ _ _ us hl => match us, hl with | [_], _ => rfl⟩
    g_l_new := PySem.W.mg_of X G a_l_new
    d_l_given := ⟨f_l_given, _, fun_mk (st := s_l_given) l_l_given c_l_given k_l_given, (fun_mk (st := s_l_given) l_l_given c_l_given k_l_given).binds (ps := ["_law_mine", "_law_upto"]) fun _ _ _ _ _ _ us hl => match us, hl with | [_, _], _ => rfl⟩
    g_l_given := PySem.W.mg_of X G a_l_given
    d_l_look := ⟨f_l_look, _, fun_mk (st := s_l_look) l_l_look c_l_look k_l_look, (fun_mk (st := s_l_look) l_l_look c_l_look k_l_look).binds (ps := ["_law_mine", "_law_cause"]) fun _ _ _ _ _ _ us hl => match us, hl with | [_, _], _ => rfl⟩
    g_l_look := PySem.W.mg_of X G a_l_look
    d_l_shut := ⟨f_l_shut, _, fun_mk (st := s_l_shut) l_l_shut c_l_shut k_l_shut, (fun_mk (st := s_l_shut) l_l_shut c_l_shut k_l_shut).binds (ps := ["_law_mine"]) fun _ _ _ _ _ _ us hl => match us, hl with | [_], _ => rfl⟩
    g_l_shut := PySem.W.mg_of X G a_l_shut
    d_l_joined := ⟨f_l_joined, _, fun_mk (st := s_l_joined) l_l_joined c_l_joined k_l_joined, (fun_mk (st := s_l_joined) l_l_joined c_l_joined k_l_joined).binds (ps := ["_law_mine", "_law_house"]) fun _ _ _ _ _ _ us hl => match us, hl with | [_, _], _ => rfl⟩
    g_l_joined := PySem.W.mg_of X G a_l_joined
    d_l_parted := ⟨f_l_parted, _, fun_mk (st := s_l_parted) l_l_parted c_l_parted k_l_parted, (fun_mk (st := s_l_parted) l_l_parted c_l_parted k_l_parted).binds (ps := ["_law_mine", "_law_house"]) fun _ _ _ _ _ _ us hl => match us, hl with | [_, _], _ => rfl⟩
    g_l_parted := PySem.W.mg_of X G a_l_parted
    d_l_opened := ⟨f_l_opened, _, fun_mk (st := s_l_opened) l_l_opened c_l_opened k_l_opened, (fun_mk (st := s_l_opened) l_l_opened c_l_opened k_l_opened).binds (ps := ["_law_mine", "_law_house"]) fun _ _ _ _ _ _ us hl => match us, hl with | [_, _], _ => rfl⟩
    g_l_opened := PySem.W.mg_of X G a_l_opened
    d_l_hears := ⟨f_l_hears, _, fun_mk (st := s_l_hears) l_l_hears c_l_hears k_l_hears, (fun_mk (st := s_l_hears) l_l_hears c_l_hears k_l_hears).binds (ps := ["_law_mine", "_law_house", "_law_letter"]) fun _ _ _ _ _ _ us hl => match us, hl with | [_, _, _], _ => rfl⟩
    g_l_hears := PySem.W.mg_of X G a_l_hears
    d_l_did := ⟨f_l_did, _, fun_mk (st := s_l_did) l_l_did c_l_did k_l_did, (fun_mk (st := s_l_did) l_l_did c_l_did k_l_did).binds (ps := ["_law_mine", "_law_what_here"]) fun _ _ _ _ _ _ us hl => match us, hl with | [_, _], _ => rfl⟩
    g_l_did := PySem.W.mg_of X G a_l_did
    d_l_alike := ⟨f_l_alike, _, fun_mk (st := s_l_alike) l_l_alike c_l_alike k_l_alike, (fun_mk (st := s_l_alike) l_l_alike c_l_alike k_l_alike).binds (ps := ["_law_guest", "_law_mine"]) fun _ _ _ _ _ _ us hl => match us, hl with | [_, _], _ => rfl⟩
    g_l_alike := PySem.W.mg_of X G a_l_alike
    d_l_houses := ⟨f_l_houses, _, fun_mk (st := s_l_houses) l_l_houses c_l_houses k_l_houses, (fun_mk (st := s_l_houses) l_l_houses c_l_houses k_l_houses).binds (ps := ["_law_pot_here"]) fun _ _ _ _ _ _ us hl => match us, hl with | [_], _ => rfl⟩
    g_l_houses := PySem.W.mg_of X G a_l_houses
    d_l_road := ⟨f_l_road, _, fun_mk (st := s_l_road) l_l_road c_l_road k_l_road, (fun_mk (st := s_l_road) l_l_road c_l_road k_l_road).binds (ps := ["_law_pot_here", "_law_houses_here"]) fun _ _ _ _ _ _ us hl => match us, hl with | [_, _], _ => rfl⟩
    g_l_road := PySem.W.mg_of X G a_l_road
    d_law := ⟨f_law, _, fun_mk (st := s_law) l_law c_law k_law, (fun_mk (st := s_law) l_law c_law k_law).binds (ps := ["_law_script"]) fun _ _ _ _ _ _ us hl => match us, hl with | [_], _ => rfl⟩
    g_law := PySem.W.mg_of X G a_law }
theorem end_of {P : Program} {w : World} {K : PySem.W.Frag} {mg : Str → Option Value} {fa : Addr} (T : Tx K mg) (hfa : mg "law" = some (.ref fa)) :
    ∃ fd : FuncData, (∀ (s : Shared) (v : Value), BindsTo s fd ⟨[v], []⟩ [("_law_script", v)]) ∧ ∀ base : Heap, K.In base → base.Ns mainGlobals mg → FnG P w K mg base 10 fa fd ["_law_script"] (spLaw K) := by
  have e := T.g_law.symm.trans hfa
  cases e
  obtain ⟨oc, od, kV, doc, pm, an, cdv, ct, osl, efd, _, _⟩ := T.d_law.F.ex
  exact ⟨T.d_law.fd, fun s v => by rw [efd]; exact .of_eq rfl, fun base _ _ => fn_law T⟩
theorem walk {l : PySem.W.OpenLaw} {q : Program} {loose : List Str} {XP : (Str → Option Value) → Heap → Prop} {YP : World → Heap → Prop} {d : DefRec} {K : Params → PySem.W.Frag} (hn : l.most = some 63) (hdf : d.params.defaults = []) (hd : d.name = "law")
    (hY : ∀ (w : World) (h : Heap), YP w h → (K w.params).In h) (F : ∀ (w : World) (mg : Str → Option Value) (h : Heap), (K w.params).In h → h.Ns mainGlobals mg → Nonempty (Tx (K w.params) mg)) :
    PySem.W.WalkO q loose XP YP l.row.toRowW d [] (fun f vs => PySem.call f vs) :=
  walkG (n := 63) (k := 10) (x := "_law_script") (sp := spLaw) hn (by decide) hdf ⟨rfl, by decide, by decide⟩ hY
    (fun w mg fa h X G hmg => by
      obtain ⟨T⟩ := F w mg h X G
      exact end_of T (by rw [← hd]; exact hmg))
    fun K H a ns hl hS => ⟨a, ns, rfl, hS, hl, fun _ => rfl⟩
end Ha

open PySem PySem.W PyProof.Rows in
set_option maxRecDepth 100000 in
set_option maxHeartbeats 0 in
theorem PySem.Challenge.cw_heardahead_k27_whole_a_guest_by_the_rule_holds : PySem.Challenge.rw_heardahead_k27_whole_a_guest_by_the_rule.Holds := by
  w_on; o_law; k_head; (case hw => w_witness2)
  k_fill
  refine Ha.walk (l := PySem.Challenge.rw_heardahead_k27_whole_a_guest_by_the_rule) rfl rfl rfl (fun w h Y => PySem.W.kIn_of Y) ?F
  case F =>
    intro w mg h KX G
    refine' ⟨Ha.all_tx KX G ?gC ?cPg ?cHd ?cPo ?cSa ?cMk ?cKp ?n_own ?n_wished ?n_near ?n_ears ?n_mark ?n_since ?n_opened ?n_source ?n_knows ?n_waits ?n_debts ?n_seats ?n_past ?n_going ?zIN ?zOUT ?zCLEAR ?zBARRED ?zWORD ?zLETTERS ?zMOST ?gOPEN ?lOPEN ?gHEARD ?lHEARD ?gCHAIR ?lCHAIR ?gBACK ?lBACK ?gChairError ?xChairError ?kChairError ?bChairError ?tChairError ?gNoName ?xNoName ?kNoName ?bNoName ?tNoName ?gNoRoad ?xNoRoad ?kNoRoad ?bNoRoad ?tNoRoad ?gNoLetter ?xNoLetter ?kNoLetter ?bNoLetter ?tNoLetter ?gNotWished ?xNotWished ?kNotWished ?bNotWished ?tNotWished ?gTwice ?xTwice ?kTwice ?bTwice ?tTwice ?iChairError ?sNoName ?sNoRoad ?sNoLetter ?sNotWished ?sTwice ?b_isinstance ?b_len ?b_all ?b_sorted ?b_list ?b_max ?b_min ?b_range ?b_repr ?b_str ?b_tuple ?a_init ?i_init ?l_init ?c_init ?k_init ?a_need_near ?i_need_near ?l_need_near ?c_need_near ?k_need_near ?a_tell ?i_tell ?l_tell ?c_tell ?k_tell ?a_gone ?i_gone ?l_gone ?c_gone ?k_gone ?a_words_heard ?i_words_heard ?l_words_heard ?c_words_heard ?k_words_heard ?a_given ?i_given ?l_given ?c_given ?k_given ?a_look ?i_look ?l_look ?c_look ?k_look ?a_settle ?i_settle ?l_settle ?c_settle ?k_settle ?a_give_up ?i_give_up ?l_give_up ?c_give_up ?k_give_up ?a_close ?i_close ?l_close ?c_close ?k_close ?a_wish ?i_wish ?l_wish ?c_wish ?k_wish ?a_unwish ?i_unwish ?l_unwish ?c_unwish ?k_unwish ?a_join ?i_join ?l_join ?c_join ?k_join ?a_part ?i_part ?l_part ?c_part ?k_part ?a_answered ?i_answered ?l_answered ?c_answered ?k_answered ?a_hear ?i_hear ?l_hear ?c_hear ?k_hear ?a_hear_word ?i_hear_word ?l_hear_word ?c_hear_word ?k_hear_word ?a_hear_open ?i_hear_open ?l_hear_open ?c_hear_open ?k_hear_open ?a_hear_chair ?i_hear_chair ?l_hear_chair ?c_hear_chair ?k_hear_chair ?a_houses ?i_houses ?l_houses ?c_houses ?k_houses ?a_wishes ?i_wishes ?l_wishes ?c_wishes ?k_wishes ?a_is_open ?i_is_open ?l_is_open ?c_is_open ?k_is_open ?a_word ?i_word ?l_word ?c_word ?k_word ?a_heard_of ?i_heard_of ?l_heard_of ?c_heard_of ?k_heard_of ?a_is_ahead ?i_is_ahead ?l_is_ahead ?c_is_ahead ?k_is_ahead ?a_chairs ?i_chairs ?l_chairs ?c_chairs ?k_chairs ?a_awaited ?i_awaited ?l_awaited ?c_awaited ?k_awaited ?a_owed ?i_owed ?l_owed ?c_owed ?k_owed ?a_cause ?i_cause ?l_cause ?c_cause ?k_cause ?a_turns ?i_turns ?l_turns ?c_turns ?k_turns ?a_is_name ?l_is_name ?c_is_name ?k_is_name ?a_is_letter ?l_is_letter ?c_is_letter ?k_is_letter ?a_l_pot ?l_l_pot ?c_l_pot ?k_l_pot ?a_l_dip ?l_l_dip ?c_l_dip ?k_l_dip ?a_l_names ?l_l_names ?c_l_names ?k_l_names ?a_l_done ?l_l_done ?c_l_done ?k_l_done ?a_l_what ?l_l_what ?c_l_what ?k_l_what ?a_l_new ?l_l_new ?c_l_new ?k_l_new ?a_l_given ?l_l_given ?c_l_given ?k_l_given ?a_l_look ?l_l_look ?c_l_look ?k_l_look ?a_l_shut ?l_l_shut ?c_l_shut ?k_l_shut ?a_l_joined ?l_l_joined ?c_l_joined ?k_l_joined ?a_l_parted ?l_l_parted ?c_l_parted ?k_l_parted ?a_l_opened ?l_l_opened ?c_l_opened ?k_l_opened ?a_l_hears ?l_l_hears ?c_l_hears ?k_l_hears ?a_l_did ?l_l_did ?c_l_did ?k_l_did ?a_l_alike ?l_l_alike ?c_l_alike ?k_l_alike ?a_l_houses ?l_l_houses ?c_l_houses ?k_l_houses ?a_l_road ?l_l_road ?c_l_road ?k_l_road ?a_law ?l_law ?c_law ?k_law⟩
    (case gC => k_is)
    (case cPg => k_is)
    (case cHd => k_is)
    (case cPo => k_is)
    (case cSa => k_is)
    (case cMk => k_is)
    (case cKp => k_is)
    (case n_own => k_is)
    (case n_wished => k_is)
    (case n_near => k_is)
    (case n_ears => k_is)
    (case n_mark => k_is)
    (case n_since => k_is)
    (case n_opened => k_is)
    (case n_source => k_is)
    (case n_knows => k_is)
    (case n_waits => k_is)
    (case n_debts => k_is)
    (case n_seats => k_is)
    (case n_past => k_is)
    (case n_going => k_is)
    (case zIN => k_is)
    (case zOUT => k_is)
    (case zCLEAR => k_is)
    (case zBARRED => k_is)
    (case zWORD => k_is)
    (case zLETTERS => k_is)
    (case zMOST => k_is)
    (case gOPEN => k_is)
    (case lOPEN => k_is)
    (case gHEARD => k_is)
    (case lHEARD => k_is)
    (case gCHAIR => k_is)
    (case lCHAIR => k_is)
    (case gBACK => k_is)
    (case lBACK => k_is)
    (case gChairError => k_is)
    (case xChairError => k_exc)
    (case kChairError => k_is)
    (case bChairError => k_is)
    (case tChairError => k_is)
    (case gNoName => k_is)
    (case xNoName => k_exc)
    (case kNoName => k_is)
    (case bNoName => k_is)
    (case tNoName => k_is)
    (case gNoRoad => k_is)
    (case xNoRoad => k_exc)
    (case kNoRoad => k_is)
    (case bNoRoad => k_is)
    (case tNoRoad => k_is)
    (case gNoLetter => k_is)
    (case xNoLetter => k_exc)
    (case kNoLetter => k_is)
    (case bNoLetter => k_is)
    (case tNoLetter => k_is)
    (case gNotWished => k_is)
    (case xNotWished => k_exc)
    (case kNotWished => k_is)
    (case bNotWished => k_is)
    (case tNotWished => k_is)
    (case gTwice => k_is)
    (case xTwice => k_exc)
    (case kTwice => k_is)
    (case bTwice => k_is)
    (case tTwice => k_is)
    (case iChairError => k_is)
    (case sNoName => k_is)
    (case sNoRoad => k_is)
    (case sNoLetter => k_is)
    (case sNotWished => k_is)
    (case sTwice => k_is)
    (case b_isinstance => k_is)
    (case b_len => k_is)
    (case b_all => k_is)
    (case b_sorted => k_is)
    (case b_list => k_is)
    (case b_max => k_is)
    (case b_min => k_is)
    (case b_range => k_is)
    (case b_repr => k_is)
    (case b_str => k_is)
    (case b_tuple => k_is)
    (case a_init => k_is)
    (case i_init => k_is)
    (case l_init => k_is)
    (case c_init => k_is)
    (case k_init => k_is)
    (case a_need_near => k_is)
    (case i_need_near => k_is)
    (case l_need_near => k_is)
    (case c_need_near => k_is)
    (case k_need_near => k_is)
    (case a_tell => k_is)
    (case i_tell => k_is)
    (case l_tell => k_is)
    (case c_tell => k_is)
    (case k_tell => k_is)
    (case a_gone => k_is)
    (case i_gone => k_is)
    (case l_gone => k_is)
    (case c_gone => k_is)
    (case k_gone => k_is)
    (case a_words_heard => k_is)
    (case i_words_heard => k_is)
    (case l_words_heard => k_is)
    (case c_words_heard => k_is)
    (case k_words_heard => k_is)
    (case a_given => k_is)
    (case i_given => k_is)
    (case l_given => k_is)
    (case c_given => k_is)
    (case k_given => k_is)
    (case a_look => k_is)
    (case i_look => k_is)
    (case l_look => k_is)
    (case c_look => k_is)
    (case k_look => k_is)
    (case a_settle => k_is)
    (case i_settle => k_is)
    (case l_settle => k_is)
    (case c_settle => k_is)
    (case k_settle => k_is)
    (case a_give_up => k_is)
    (case i_give_up => k_is)
    (case l_give_up => k_is)
    (case c_give_up => k_is)
    (case k_give_up => k_is)
    (case a_close => k_is)
    (case i_close => k_is)
    (case l_close => k_is)
    (case c_close => k_is)
    (case k_close => k_is)
    (case a_wish => k_is)
    (case i_wish => k_is)
    (case l_wish => k_is)
    (case c_wish => k_is)
    (case k_wish => k_is)
    (case a_unwish => k_is)
    (case i_unwish => k_is)
    (case l_unwish => k_is)
    (case c_unwish => k_is)
    (case k_unwish => k_is)
    (case a_join => k_is)
    (case i_join => k_is)
    (case l_join => k_is)
    (case c_join => k_is)
    (case k_join => k_is)
    (case a_part => k_is)
    (case i_part => k_is)
    (case l_part => k_is)
    (case c_part => k_is)
    (case k_part => k_is)
    (case a_answered => k_is)
    (case i_answered => k_is)
    (case l_answered => k_is)
    (case c_answered => k_is)
    (case k_answered => k_is)
    (case a_hear => k_is)
    (case i_hear => k_is)
    (case l_hear => k_is)
    (case c_hear => k_is)
    (case k_hear => k_is)
    (case a_hear_word => k_is)
    (case i_hear_word => k_is)
    (case l_hear_word => k_is)
    (case c_hear_word => k_is)
    (case k_hear_word => k_is)
    (case a_hear_open => k_is)
    (case i_hear_open => k_is)
    (case l_hear_open => k_is)
    (case c_hear_open => k_is)
    (case k_hear_open => k_is)
    (case a_hear_chair => k_is)
    (case i_hear_chair => k_is)
    (case l_hear_chair => k_is)
    (case c_hear_chair => k_is)
    (case k_hear_chair => k_is)
    (case a_houses => k_is)
    (case i_houses => k_is)
    (case l_houses => k_is)
    (case c_houses => k_is)
    (case k_houses => k_is)
    (case a_wishes => k_is)
    (case i_wishes => k_is)
    (case l_wishes => k_is)
    (case c_wishes => k_is)
    (case k_wishes => k_is)
    (case a_is_open => k_is)
    (case i_is_open => k_is)
    (case l_is_open => k_is)
    (case c_is_open => k_is)
    (case k_is_open => k_is)
    (case a_word => k_is)
    (case i_word => k_is)
    (case l_word => k_is)
    (case c_word => k_is)
    (case k_word => k_is)
    (case a_heard_of => k_is)
    (case i_heard_of => k_is)
    (case l_heard_of => k_is)
    (case c_heard_of => k_is)
    (case k_heard_of => k_is)
    (case a_is_ahead => k_is)
    (case i_is_ahead => k_is)
    (case l_is_ahead => k_is)
    (case c_is_ahead => k_is)
    (case k_is_ahead => k_is)
    (case a_chairs => k_is)
    (case i_chairs => k_is)
    (case l_chairs => k_is)
    (case c_chairs => k_is)
    (case k_chairs => k_is)
    (case a_awaited => k_is)
    (case i_awaited => k_is)
    (case l_awaited => k_is)
    (case c_awaited => k_is)
    (case k_awaited => k_is)
    (case a_owed => k_is)
    (case i_owed => k_is)
    (case l_owed => k_is)
    (case c_owed => k_is)
    (case k_owed => k_is)
    (case a_cause => k_is)
    (case i_cause => k_is)
    (case l_cause => k_is)
    (case c_cause => k_is)
    (case k_cause => k_is)
    (case a_turns => k_is)
    (case i_turns => k_is)
    (case l_turns => k_is)
    (case c_turns => k_is)
    (case k_turns => k_is)
    (case a_is_name => k_is)
    (case l_is_name => k_is)
    (case c_is_name => k_is)
    (case k_is_name => k_is)
    (case a_is_letter => k_is)
    (case l_is_letter => k_is)
    (case c_is_letter => k_is)
    (case k_is_letter => k_is)
    (case a_l_pot => k_is)
    (case l_l_pot => k_is)
    (case c_l_pot => k_is)
    (case k_l_pot => k_is)
    (case a_l_dip => k_is)
    (case l_l_dip => k_is)
    (case c_l_dip => k_is)
    (case k_l_dip => k_is)
    (case a_l_names => k_is)
    (case l_l_names => k_is)
    (case c_l_names => k_is)
    (case k_l_names => k_is)
    (case a_l_done => k_is)
    (case l_l_done => k_is)
    (case c_l_done => k_is)
    (case k_l_done => k_is)
    (case a_l_what => k_is)
    (case l_l_what => k_is)
    (case c_l_what => k_is)
    (case k_l_what => k_is)
    (case a_l_new => k_is)
    (case l_l_new => k_is)
    (case c_l_new => k_is)
    (case k_l_new => k_is)
    (case a_l_given => k_is)
    (case l_l_given => k_is)
    (case c_l_given => k_is)
    (case k_l_given => k_is)
    (case a_l_look => k_is)
    (case l_l_look => k_is)
    (case c_l_look => k_is)
    (case k_l_look => k_is)
    (case a_l_shut => k_is)
    (case l_l_shut => k_is)
    (case c_l_shut => k_is)
    (case k_l_shut => k_is)
    (case a_l_joined => k_is)
    (case l_l_joined => k_is)
    (case c_l_joined => k_is)
    (case k_l_joined => k_is)
    (case a_l_parted => k_is)
    (case l_l_parted => k_is)
    (case c_l_parted => k_is)
    (case k_l_parted => k_is)
    (case a_l_opened => k_is)
    (case l_l_opened => k_is)
    (case c_l_opened => k_is)
    (case k_l_opened => k_is)
    (case a_l_hears => k_is)
    (case l_l_hears => k_is)
    (case c_l_hears => k_is)
    (case k_l_hears => k_is)
    (case a_l_did => k_is)
    (case l_l_did => k_is)
    (case c_l_did => k_is)
    (case k_l_did => k_is)
    (case a_l_alike => k_is)
    (case l_l_alike => k_is)
    (case c_l_alike => k_is)
    (case k_l_alike => k_is)
    (case a_l_houses => k_is)
    (case l_l_houses => k_is)
    (case c_l_houses => k_is)
    (case k_l_houses => k_is)
    (case a_l_road => k_is)
    (case l_l_road => k_is)
    (case c_l_road => k_is)
    (case k_l_road => k_is)
    (case a_law => k_is)
    (case l_law => k_is)
    (case c_law => k_is)
    (case k_law => k_is)
#print axioms PySem.Challenge.cw_heardahead_k27_whole_a_guest_by_the_rule_holds
