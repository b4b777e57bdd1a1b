import PyProof.Rows.All
import Wide.All
import OpenK.AllK
import Wide.FinOn
import HandS.SetFor
import HandS.SortInts
import HandS.Strs
import HandS.ForMost
import KE.GoesEnum
import HandS.ForExc
import HandS.Wide
import HandS.TupAny
import HandS.TupLe
import HandS.CallSlots
import HandS.StrMore
import HandS.Style
import HandS.Walk
import HandS.Zip
import HandS.Rev
import PyProof.StrBlock2
import HandS.Exc
import HandS.ExcIs
import HandS.ExcInit
import HandS.ExcField
import HandS.Lambda
import HandS.Deep
import HandS.Flow
import HandS.Text
import HandS.IsInst
import HandS.Replace
import HandS.TryOnly
import HandS.Small
import HandS.ExcBuiltin
import HandS.WordsExc
import KE.KRevSl
import PyProof.SliceStr2
import HandS.HeadHook4
import HandS.HeadWalk
import HandS.Defaults
import HandS.EndTab
import HandS.EndBits
import PyProof.ReprBulk
import KE.KStateDown
import HandS.Head0
import HandS.Head1
import HandS.Head2
import HandS.HeadEnd
import PySem.Challenge.RW_sureweights_k55_runs_of_code
set_option Elab.async false
set_option linter.all false
set_option maxRecDepth 100000
set_option maxHeartbeats 0
set_option exponentiation.threshold 600
/-! sorted, set of rows of ints: lists and tuples. -/
namespace MP
open PySem PySem.Spec PyProof.Rows L2
/-! ### plain -/
def insI (x : Int) : List Int → List Int
  | [] => [x]
  | y :: ys => if x ≤ y then x :: y :: ys else y :: insI x ys
/-- ascending -/
def sortI : List Int → List Int
  | [] => []
  | x :: xs => insI x (sortI xs)
/-- each once -/
def onceI : List Int → List Int
  | [] => []
  | x :: xs => if x ∈ xs then onceI xs else x :: onceI xs
theorem insI_perm (x : Int) : ∀ ys, (insI x ys).Perm (x :: ys)
  | [] => .refl _
  | y :: ys => by
    unfold insI
    split
    · exact .refl _
    · exact ((insI_perm x ys).cons y).trans (.swap _ _ _)
theorem insI_le (x : Int) : ∀ {ys : List Int}, ys.Pairwise (· ≤ ·) → (insI x ys).Pairwise (· ≤ ·)
  | [], _ => List.pairwise_singleton _ _
  | y :: ys, h => by
    have ⟨h1, h2⟩ := List.pairwise_cons.mp h
    unfold insI
    split
    · rename_i q
      refine List.pairwise_cons.mpr ⟨fun z hz => ?_, h⟩
      rcases List.mem_cons.mp hz with e | hz
      · rw [e]; exact q
      · exact Int.le_trans q (h1 z hz)
    · rename_i q
      refine List.pairwise_cons.mpr ⟨fun z hz => ?_, insI_le x h2⟩
      rcases List.mem_cons.mp ((insI_perm x ys).mem_iff.mp hz) with e | hz
      · rw [e]; omega
      · exact h1 z hz
theorem sortI_perm : ∀ xs, (sortI xs).Perm xs
  | [] => .refl _
  | x :: xs => (insI_perm x _).trans ((sortI_perm xs).cons x)
theorem sortI_le : ∀ xs, (sortI xs).Pairwise (· ≤ ·)
  | [] => List.Pairwise.nil
  | x :: xs => insI_le x (sortI_le xs)
theorem sorted_one : ∀ {xs ys : List Int}, xs.Perm ys → xs.Pairwise (· ≤ ·) → ys.Pairwise (· ≤ ·) → xs = ys
  | [], ys, p, _, _ => (List.nil_perm.mp p).symm
  | x :: xs, [], p, _, _ => absurd p.length_eq (by simp)
  | x :: xs, y :: ys, p, h, h' => by
    have ⟨h1, h2⟩ := List.pairwise_cons.mp h
    have ⟨k1, k2⟩ := List.pairwise_cons.mp h'
    have e : x = y := by
      have a : x ≤ y := by
        rcases List.mem_cons.mp (p.mem_iff.mpr (List.mem_cons_self (a := y))) with e | m
        · omega
        · exact h1 y m
      have b : y ≤ x := by
        rcases List.mem_cons.mp (p.mem_iff.mp (List.mem_cons_self (a := x))) with e | m
        · omega
        · exact k1 x m
      omega
    subst e
    rw [sorted_one (List.perm_cons _ |>.mp p) h2 k2]
theorem sortI_eq {xs ys : List Int} (p : ys.Perm xs) (h : ys.Pairwise (· ≤ ·)) : ys = sortI xs := sorted_one (p.trans (sortI_perm xs).symm) h (sortI_le xs)
theorem mem_onceI {k : Int} : ∀ {xs : List Int}, k ∈ onceI xs ↔ k ∈ xs
  | [] => Iff.rfl
  | x :: xs => by
    unfold onceI
    split
    · rename_i q
      rw [mem_onceI, List.mem_cons]
      exact ⟨.inr, fun h => h.elim (fun e => e ▸ q) id⟩
    · rw [List.mem_cons, List.mem_cons, mem_onceI]
theorem onceI_nodup : ∀ xs : List Int, (onceI xs).Nodup
  | [] => List.nodup_nil
  | x :: xs => by
    unfold onceI
    split
    · exact onceI_nodup xs
    · rename_i q
      exact List.nodup_cons.mpr ⟨fun h => q (mem_onceI.mp h), onceI_nodup xs⟩
theorem onceI_len : ∀ xs : List Int, (onceI xs).length ≤ xs.length
  | [] => Nat.le_refl _
  | x :: xs => by
    unfold onceI
    have := onceI_len xs
    split
    · rw [List.length_cons]; omega
    · rw [List.length_cons, List.length_cons]; omega
/-- all items are unlike just where each once is as long -/
theorem onceI_full : ∀ {xs : List Int}, (onceI xs).length = xs.length ↔ xs.Nodup
  | [] => by simp [onceI]
  | x :: xs => by
    unfold onceI
    have := onceI_len xs
    have ih := onceI_full (xs := xs)
    split
    · rename_i q
      rw [List.nodup_cons, List.length_cons]
      exact ⟨fun h => absurd h (by omega), fun h => absurd q h.1⟩
    · rename_i q
      rw [List.nodup_cons, List.length_cons, List.length_cons]
      exact ⟨fun h => ⟨q, ih.mp (by omega)⟩, fun h => by rw [ih.mpr h.2]⟩
theorem lt_le {xs : List Int} (h : xs.Pairwise (· < ·)) : xs.Pairwise (· ≤ ·) := h.imp fun {a b} q => Int.le_of_lt q
theorem lt_nodup {xs : List Int} (h : xs.Pairwise (· < ·)) : xs.Nodup := h.imp fun {a b} q => by omega
/-! ### sorted(tuple) -/
section
variable {prog : Program} {w : World} {A : Around} {E : Value → Shared → Prop} {s : Shared}
abbrev colH (h : Heap) (vs : List Value) : Heap := (h.push (seqObj "list" #[] 0)).update h.objs.size (Obj.mapSeq (· ++ vs.toArray))
theorem collect_tup {l : Addr} {vs : List Value} {Q : List Value → Shared → Prop} (hl : s.heap.IsTuple l vs.toArray) (hsz : vs.length ≤ sizeLine) (h : Q vs { s with heap := colH s.heap vs }) :
    wpAny (model prog w) A (collect (.ref l)) Q E s := by
  obtain ⟨o, ho, hc, n, hd⟩ := id hl
  unfold collect
  refine wpAny_bind (wpAny_runValue (codeAny_builtin PyProof.Rows.entry_proto_collect' ?_))
  show wpAny _ _ (do again (.builtin "list.__iadd__" ⟨[← newList [], .ref l], []⟩)) _ _ s
  refine wpAny_bind (wpAny_newList (wpAny_pure ⟨Code.quiet_builtin _ (by decide +kernel), codeAny_builtin PyProof.Rows.entry_list_iadd' ?_⟩))
  show wpAny _ _ (Builtin.List.listExtendWith (.ref s.heap.objs.size) (.ref l) (.ref s.heap.objs.size)) _ _ { s with heap := s.heap.push (seqObj "list" #[] 0) }
  unfold Builtin.List.listExtendWith
  have k : (s.heap.push (seqObj "list" #[] 0)).get? l = some o := Heap.get?_push_of_some _ ho
  refine wpAny_bind (wpAny_typeOf (T := "tuple") ⟨o, k, hc⟩ ?_)
  have ht : (Value.type "tuple" == Value.type "tuple") = true := by rfl
  rw [if_pos (by rw [ht]; simp)]
  refine wpAny_bind (PyProof.Rows.listItems_at k hd ?_)
  refine wpAny_bind (PyProof.Rows.listItems_at (xs := #[]) (n := 0) (Heap.get?_push_size _ rfl) rfl ?_)
  rw [if_neg (by simp)]
  have hz2 : (#[] ++ vs.toArray).size ≤ sizeLine + 1 := by
    simp only [Array.size_append, List.size_toArray, List.length_nil]
    omega
  refine wpAny_bind (PyProof.Rows.listUpdate_at (xs := #[]) (n := 0) (Heap.get?_push_size _ rfl) rfl ?_ (Nat.zero_le _) hz2)
  refine wpAny_pure ?_
  show wpAny (model prog w) A (do
      let ob ← load s.heap.objs.size
      match ob.data with
      | .seq xs _ => pure xs.toList
      | _ => unsupported "internal:collect") Q E { s with heap := colH s.heap vs }
  refine wpAny_bind (wpAny_load (PyProof.Rows.get?_update_seq (Heap.get?_push_size _ rfl) _) ?_)
  show wpAny _ _ (pure ((#[] : Array Value) ++ vs.toArray).toList) Q E _
  have e : ((#[] : Array Value) ++ vs.toArray).toList = vs := by simp
  rw [e]
  exact wpAny_pure h
open SrtO in
theorem sorted_tup {l : Addr} {vs : List Value} {ltv : Value → Value → Bool} {Q : Value → Shared → Prop} (O : SrtO.Swo ltv) (hl : s.heap.IsTuple l vs.toArray) (hz : vs.length ≤ sizeLine)
    (hS : 2 ≤ vs.length → ∀ (h1 : Heap) (a : Addr), h1.get? a = some (seqObj "list" vs.toArray 0) → SortableO prog w A.in1.in1 { s with heap := h1 } a vs ltv)
    (h : ∀ out : List Value, Srtd ltv out → Stb ltv out vs → Q (.ref (s.heap.objs.size + 1)) { s with heap := sortedAll s.heap vs out.toArray }) :
    wpAny (model prog w) A (call (.builtin "sorted") [.ref l]) Q E s := by
  refine Calls.call_function_entry kind_sorted plain_sorted entry_sorted (args_sorted1 _) ?_
  unfold Builtin.«sorted»
  refine wpAny_bind (m := checkCount "sorted" 1 1 _) (wpAny_pure (wpAny_bind (collect_tup hl hz ?_)))
  refine wpAny_bind (wpAny_newList ?_ hz)
  have hsz : (colH s.heap vs).objs.size = s.heap.objs.size + 1 := by rw [Heap.size_update, size_push']
  have hoL : ((colH s.heap vs).push (seqObj "list" vs.toArray 0)).get? (s.heap.objs.size + 1) = some (seqObj "list" vs.toArray 0) := by
    rw [← hsz]
    exact Heap.get?_push_size _ rfl
  show wpAny _ _ _ _ _ { s with heap := (colH s.heap vs).push (seqObj "list" vs.toArray 0) }
  rw [hsz]
  exact wpAny_bind (wpAny_holding (wpAny_call_entry slot_list_sort ⟨_, hoL, rfl⟩ entry_list_sort (list_sort_ord O hoL hz (fun h2 => hS h2 _ _ hoL) fun out hs hb => ⟨_, rfl, wpAny_pure ⟨_, rfl, h out hs hb⟩⟩) (args_list_sort _)))
end
/-- sorted of a row of ints -/
def rSrt (K : PySem.W.Frag) : List V → Hp → VK → Prop := fun vs H Q => ∃ (a : Addr) (ns : List Int), vs = [V.ref a] ∧ (SqL K H a (ns.map V.int) ∨ SqT K H a (ns.map V.int)) ∧
  ∀ p : Addr, H p = none → Q (.ref p) (upd H p (.lst ((sortI ns).map V.int)))
section
variable {X : Cx}
theorem cr_srt : CallR X (.builtin "sorted") (rSrt X.K) := by
  intro pins s σ H vs us Q I r h
  obtain ⟨a, ns, rfl, hs | hs, q⟩ := h
  · exact cr_sortedI pins s σ H _ us Q I r ⟨a, ns, rfl, hs, fun ns' p h1 h2 hp => by rw [sortI_eq h1 h2]; exact q p hp⟩
  · obtain ⟨its, rv, hl, hz⟩ := I.tuple hs
    rw [Vals.ref1 r]
    have hi := rv.ints
    refine sorted_tup SrtO.swo_int hl (by rw [← rv.length]; exact hz) (fun h2 h1 a' _ => SrtO.ints_sortable hi h2) fun out h1 h2 => ?_
    obtain ⟨k1, k2, k3⟩ := SrtO.ints_out hi h1 h2
    have e := sortI_eq k2 k3
    obtain ⟨ep, he'⟩ := PyProof.Rows.sortedAll_at s.heap its out.toArray
    have hlen : ((out.map SrtO.iv).map V.int).length ≤ sizeLine := by
      rw [List.length_map, k2.length_eq]
      rw [List.length_map] at hz
      exact hz
    have J := I.laid (t' := s.toks) (o := .lst ((out.map SrtO.iv).map V.int)) (fun _ _ => PyProof.Rows.sortedAll_old) (Nat.le_succ _) ⟨hlen, out, ep, vals_of_ints k1, he'⟩
    rw [e] at J
    exact ⟨.ref _, _, J, rfl, q _ (I.hok.fresh (Nat.le_succ _))⟩
end
end MP

/-! set of a row of ints; its length; sorted of it. -/
namespace MP
open PySem PySem.Spec PyProof.Rows L2
section
variable {P : Program} {w : World} {A : Around} {E : Value → Shared → Prop} {s : Shared}
/-- a set just made -/
abbrev set0 (w : World) : Obj := { cls := .type "set", dict := none, data := .set #[] 0 (.fresh 0 0 (!w.params.followText "set-order")) }
abbrev sPush (w : World) (h : Heap) : Heap := h.push (set0 w)
theorem set_lst {l : Addr} {its : Array Value} (ns : List Int) {Q : Value → Shared → Prop} (hh : A.handled = none) (hl : s.heap.IsList l its) (hit : IntsAre its.toList ns) (hb : ns.length + 1 < scanBound)
    (h : ∀ (h' : Heap) (tk c : Nat), SetR w h' s.heap.objs.size (fun j => decide (j ∈ ns)) c → c ≤ ns.length → (∀ b o, s.heap.get? b = some o → h'.get? b = some o) → Q (.ref s.heap.objs.size) { s with heap := h', toks := tk }) :
    wpAny (model P w) A (call (.type "set") [.ref l]) Q E s := by
  have hsize : its.size = ns.length := by
    rw [← Array.length_toList]
    exact IntsAre.length hit
  have ⟨c, tl, hmro⟩ := F.called_set.mro
  have made := F.called_set.made
  have sub := F.called_set.sub
  have nt := F.called_set.notType
  have can := F.called_set.canCreate
  have ct := F.typeCall_set_1 (.ref l)
  refine wpAny_call (codeAny_of_tree (show wpAny _ _ (callAny (.type "set") _) _ _ _ from ?_))
  refine wpAny_pure ⟨Code.quiet_builtin _ (by decide +kernel), codeAny_builtin F.entry_type_call (?_)⟩
  rw [Around.under_plain (weight_type_call_type "set" [.ref l] []) rfl]
  repeat (any_goals (first | assumption | wp_step))
  refine codeAny_mono (code_set_led1 (.ref l) (E := E) (Q₁ := fun u s1 => u = .ref s.heap.objs.size ∧ s1 = { s with heap := sPush w s.heap }) ⟨rfl, rfl⟩) fun r s1 hr => ?_
  cases r with
  | error e => exact hr
  | ok fl =>
  cases fl <;> first | exact hr.elim | skip
  rename_i obj
  obtain ⟨rfl, rfl⟩ := hr
  have hS : (sPush w s.heap).get? s.heap.objs.size = some (set0 w) := Heap.get?_push_size _ rfl
  have hT : Shared.TypeIs { s with heap := sPush w s.heap } (.ref s.heap.objs.size) "set" := ⟨_, hS, rfl⟩
  have look := F.called_set.init.lookup
  have bind := F.called_set.init.bind (.ref s.heap.objs.size)
  repeat (any_goals (first | assumption | wp_step))
  refine codeAny_mono (codeAny_call_builtin (R := wants (fun r s2 => r = .none ∧ ∃ h' tk c, s2 = { s with heap := h', toks := tk } ∧ SetR w h' s.heap.objs.size (fun j => decide (j ∈ ns)) c ∧ c ≤ ns.length ∧ (∀ b o, s.heap.get? b = some o → h'.get? b = some o)) E)
    F.called_set.init.plain F.entry_set_init (check_set_init_1 hT ?_)) fun r2 s2 hr2 => ?_
  · obtain ⟨⟨oc, od, oda, osl⟩, hol, hcl, nl, hdl⟩ := hl
    dsimp only at hcl hdl
    subst hcl hdl
    have hol' : (sPush w s.heap).get? l = some { cls := .type "list", dict := od, data := .seq its nl, slots := osl } := Heap.get?_push_of_some _ hol
    have n1 := F.sub_list_set
    have n2 := F.sub_list_frozenset
    have n3 : (Value.type "list" == Value.type "dict") = false := by decide
    have hl1 : (sPush w s.heap).IsList l its := ⟨_, hol', rfl, nl, rfl⟩
    unfold Builtin.«set.__init__» noKeywords Builtin.Frozenset.updateFrom
    generalize hPI : pyIter = PI
    wp_walk
    subst hPI
    refine wpAny_pyIter_list hl1 (wpAny_bind (wpAny_runValue ?_))
    have lS : l < s.heap.objs.size := Heap.lt_size hol
    have h3 : A.in1.in1.in1.handled = none := by simp [hh]
    have zP : (sPush w s.heap).objs.size = s.heap.objs.size + 1 := Heap.size_push ..
    have nI : l ≠ (sPush w s.heap).objs.size := by
      rw [zP]
      exact Nat.ne_of_lt (Nat.lt_succ_of_lt lS)
    have nS : s.heap.objs.size ∉ [(sPush w s.heap).objs.size, l] := by
      rw [zP]
      simp only [List.mem_cons, List.not_mem_nil, or_false, not_or]
      exact ⟨Nat.ne_of_lt (Nat.lt_succ_self _), Nat.ne_of_gt lS⟩
    have hval : ∀ (i : Nat) (v : Value), its[i]? = some v → ∃ k t, ns[i]? = some k ∧ v = .int k t := fun i v hv => by
      have hi : i < ns.length := by
        rw [← hsize]
        exact (Array.getElem?_eq_some_iff.mp hv).1
      obtain ⟨t, e⟩ := PyProof.Rows.IntsAre.int_at hit i v (by rw [Array.getElem?_toList]; exact hv)
      have e2 := List.getElem?_eq_getElem hi
      refine ⟨ns[i], t, e2, ?_⟩
      rw [e, List.getD_eq_getElem?_getD, e2] <;> rfl
    have hget : ((sPush w s.heap).push { cls := .type "list_iterator", data := .fields #[.ref l, .int 0 0] }).get? s.heap.objs.size = some (set0 w) := Heap.get?_push_of_some _ hS
    refine set_update_ints ((Walks.list h3 _ l nI its).toS) s.heap.objs.size nS ns hsize hb hval (its.size - 0) 0 _ (by omega) (Nat.zero_le _) ⟨⟨_, Heap.get?_push_size _ rfl, rfl, rfl⟩, hl1.push _⟩ ⟨0, Nat.le_refl 0, setR_new_at hget⟩ ?_
    intro s' c' hm hc' hS'
    obtain ⟨h', g2, d', tk', os'⟩ := s'
    obtain rfl : g2 = s.gens := hm.gens
    obtain rfl : d' = s.drawn := hm.drawn
    obtain rfl : os' = s.os := hm.os
    show wpAny _ _ _ _ _ _
    refine wpAny_pure (show wpAny _ _ (ret Value.none) _ _ _ from ?_)
    rw [hsize] at hc'
    refine wpAny_pure ⟨rfl, h', tk', c', rfl, hS', hc', fun b o e => ?_⟩
    have hb0 : b < s.heap.objs.size := Heap.lt_size e
    refine hm.heap b o ?_ (Heap.get?_push_of_some _ (Heap.get?_push_of_some _ e))
    rw [zP]
    simp only [List.mem_cons, List.not_mem_nil, or_false, not_or]
    exact ⟨Nat.ne_of_lt hb0, Nat.ne_of_lt (Nat.lt_succ_of_lt hb0)⟩
  · cases r2 with
    | error e => exact hr2
    | ok fl2 =>
      cases fl2 <;> first | exact hr2.elim | skip
      obtain ⟨rfl, h', tk, c', rfl, hS', hc', hk'⟩ := hr2
      repeat (any_goals (first | assumption | wp_step))
      exact h _ _ _ hS' hc' hk'
theorem setR_count {h : Heap} {a : Addr} {ns : List Int} {c : Nat} (R : SetR w h a (fun j => decide (j ∈ ns)) c) : c = (onceI ns).length := by
  obtain ⟨o, es, ep, t, _, _, _, _, nd, hm, _, _, hn, _⟩ := R
  have p : (es.toList.map keyOf).Perm (onceI ns) := (List.perm_ext_iff_of_nodup nd (onceI_nodup ns)).mpr fun k => by
    rw [mem_onceI, ← hm k, decide_eq_true_eq]
  have e := p.length_eq
  rw [List.length_map, Array.length_toList] at e
  omega
end
section
variable {X : Cx}
/-- set(x), x a row of ints -/
def rSetI (K : PySem.W.Frag) (w : World) : List V → Hp → VK → Prop := fun vs H Q => ∃ (a : Addr) (ns : List Int), vs = [V.ref a] ∧ (SqL K H a (ns.map V.int) ∨ SqT K H a (ns.map V.int)) ∧ ns.length ≤ 2000 ∧
  ∀ p : Addr, H p = none → Q (.ref p) (upd H p (SetO w p (fun j => decide (j ∈ ns)) (onceI ns).length))
theorem cr_setI (hc : X.calm = true) : CallR X (.type "set") (rSetI X.K X.w) := by
  intro pins s σ H vs us Q I r h
  obtain ⟨a, ns, rfl, hs, hl, q⟩ := h
  rw [Vals.ref1 r]
  have hb : ns.length + 1 < scanBound := by unfold scanBound; omega
  have fin : ∀ (h' : Heap) (tk c : Nat), SetR X.w h' s.heap.objs.size (fun j => decide (j ∈ ns)) c → c ≤ ns.length → (∀ b o, s.heap.get? b = some o → h'.get? b = some o) → (fun v s1 => ∃ x H1, Inv X pins σ H1 s1 ∧ RelV x v ∧ Q x H1) (Value.ref s.heap.objs.size) { s with heap := h', toks := tk } := fun h' tk c R _ k => by
    rw [setR_count R] at R
    have J := I.laid (t' := tk) (o := SetO X.w s.heap.objs.size (fun j => decide (j ∈ ns)) (onceI ns).length) k (Nat.le_refl _) (setO_new R)
    exact ⟨.ref _, _, J, rfl, q _ (I.hok.fresh (Nat.le_refl _))⟩
  rcases hs with hs | hs
  · obtain ⟨its, rv, p, hz⟩ := I.list hs
    exact set_lst ns (I.ok.hd hc) p.isList rv.ints hb fin
  · obtain ⟨its, rv, p, hz⟩ := I.tuple hs
    exact call_set_tupI ns (I.ok.hd hc) (show s.heap.IsTuple a its.toArray from p) rv.ints hb fin
/-- len of a set of ints -/
theorem cr_lenSet : CallR X (.builtin "len") (fun vs H Q => ∃ (a : Addr) (S : Int → Bool) (n : Nat), vs = [V.ref a] ∧ H a = some (SetO X.w a S n) ∧ Q (.int (n : Nat)) H) := by
  intro pins s σ H vs us Q I r h
  obtain ⟨a, S, n, rfl, ha, q⟩ := h
  have R := setO_get I ha
  rw [Vals.ref1 r]
  obtain ⟨o, es, ep, t, ho, hex, hd, _, _, _, hb, hf, hn, _⟩ := R
  have hfit : (es.size : Int) < 2 ^ 63 := by
    unfold scanBound at hb
    omega
  subst hn
  exact call_len_set ho hex hd hf hfit ⟨.int (es.size : Nat), H, I.tok _, ⟨_, rfl⟩, q⟩
end
end MP

/-! enumerate over a tuple. -/
namespace MP
open PySem PySem.Spec PyProof.Rows L2
open AutoSeq1 (wpAny_loadPart')
theorem enumT_new (l : Addr) (its : Array Value) (n : Nat) (dd : Option Addr) (sl : Array (Option Value)) :
    Meets (Builtin.«enumerate.__new__» ⟨[.type "enumerate", .ref l], []⟩) (fun _ R s => s.heap.get? l = some { cls := .type "tuple", dict := dd, data := .seq its n, slots := sl } ∧
      R (.ok (.ret (.ref (s.heap.push { cls := .type "tuple_iterator", data := .fields #[.ref l, .int 0 0] }).objs.size)))
        { s with heap := (s.heap.push { cls := .type "tuple_iterator", data := .fields #[.ref l, .int 0 0] }).push { cls := .type "enumerate", data := .fields #[.none, .bool false, .ref s.heap.objs.size, rawInt 0, .none, .none] } }) :=
  .of_wp fun prog w A R s h => by
    obtain ⟨hp, gg, dr, tk, os⟩ := s
    obtain ⟨hl, h⟩ := h
    have hsub := sub_enumerate
    have hT : Heap.IsTuple (Shared.heap ⟨hp, gg, dr, tk, os⟩) l its := ⟨_, hl, rfl, n, rfl⟩
    wp_walk using wpAny_loadPart' hl
    refine wpAny_stack_any (fun stk => wpAny_pure ?_)
    split
    · rename_i c _ _ _ _ _
      cases (c == Value.type "enumerate") <;> (wp_walk using wpAny_loadPart' hl, wpAny_pyIter_tuple hT; exact ⟨_, rfl, h⟩)
    · wp_walk using wpAny_loadPart' hl, wpAny_pyIter_tuple hT
      exact ⟨_, rfl, h⟩
section
variable {prog : Program} {w : World} {A : Around} {E : Value → Shared → Prop} {s : Shared}
theorem enumT_call {l : Addr} {its : Array Value} {Q : Value → Shared → Prop} (hL : s.heap.IsTuple l its)
    (h : ∀ h', IsEnum h' (s.heap.objs.size + 1) s.heap.objs.size 0 .none → h'.IsTupleIter s.heap.objs.size l 0 → (∀ b o, s.heap.get? b = some o → h'.get? b = some o) → Q (.ref (s.heap.objs.size + 1)) { s with heap := h' }) :
    wpAny (model prog w) A (call (.type "enumerate") [.ref l]) Q E s := by
  obtain ⟨⟨c, dd, dt, sl⟩, hl, hc, n, hd⟩ := hL
  replace hc : c = .type "tuple" := hc
  replace hd : dt = .seq its n := hd
  subst hc hd
  refine callType_new F.called_enumerate (by decide) (F.typeCall_enumerate_1 _) (F.newCall_enumerate_1 _) (fun o => F.args_object_init_2 o _) F.entry_enumerate_new (enumT_new l its n dd sl) ⟨hl, ?_⟩
  have hz : (s.heap.push { cls := .type "tuple_iterator", data := .fields #[.ref l, .int 0 0] }).objs.size = s.heap.objs.size + 1 := Heap.size_push ..
  show _ ∧ _
  rw [hz]
  have he : IsEnum ((s.heap.push { cls := .type "tuple_iterator", data := .fields #[.ref l, .int 0 0] }).push { cls := .type "enumerate", data := .fields #[.none, .bool false, .ref s.heap.objs.size, rawInt 0, .none, .none] }) (s.heap.objs.size + 1) s.heap.objs.size 0 .none := by
    have q := Heap.get?_push_size (s.heap.push { cls := .type "tuple_iterator", data := .fields #[.ref l, .int 0 0] }) (o := { cls := .type "enumerate", data := .fields #[.none, .bool false, .ref s.heap.objs.size, rawInt 0, .none, .none] }) rfl
    rw [hz] at q
    exact q
  exact ⟨⟨_, he, rfl⟩, h _ he ⟨_, Heap.get?_push_of_some _ (Heap.get?_push_size _ rfl), rfl, rfl⟩ fun b o x => Heap.get?_push_of_some _ (Heap.get?_push_of_some _ x)⟩
end
/-- items of a tuple, in new pairs with their places -/
def Itet (K : PySem.W.Frag) (a : Addr) : It := ⟨fun i H => ∃ xs x, SqT K H a xs ∧ xs[i]? = some x, fun i H v H' => ∃ T x, v = .ref T ∧ H T = none ∧ H' = upd H T (.tup [.int (i : Nat), x]) ∧ (∀ xs, SqT K H a xs → xs[i]? = some x), fun i H => ∃ xs, SqT K H a xs ∧ xs.length = i⟩
theorem turn_enumT {P : Program} {w : World} {K : PySem.W.Frag} {elts : List Expr} {kk : Nat} {tpos : Pos} (a e it : Addr) :
    Turn P w K (.Tuple elts kk tpos) (Itet K a) [e, it] e (fun i h => (∃ old, IsEnum h e it ((i : Nat) : Int) old) ∧ h.IsTupleIter it a i ∧ e ≠ it) where
  mem := by simp
  obj := fun i h st b hb => by
    obtain ⟨⟨old, he⟩, ⟨o, ho, hc, hd⟩, _⟩ := st
    have e' : b = e ∨ b = it := by simpa using hb
    rcases e' with z | z
    · rw [z]; exact ⟨_, he, fun v q => nomatch q⟩
    · rw [z]; exact ⟨o, ho, fun v q => by rw [hd] at q; cases q⟩
  keep := fun i h h' st k => let ⟨⟨old, he⟩, hi, hne⟩ := st; ⟨⟨old, k e (by simp) _ he⟩, hi.at fun o q => k it (by simp) o q, hne⟩
  item := by
    intro X hP hw hK hc i pins s σ H E I hf st hg
    subst hP hw hK
    obtain ⟨⟨old, he⟩, hit, hne⟩ := st
    obtain ⟨xs, x, hq, hx⟩ := hg
    obtain ⟨its, rv, p, hz⟩ := I.tuple hq
    have hTup : s.heap.IsTuple a its.toArray := p
    have hel : e < s.heap.objs.size := Heap.lt_size he
    have hil : it < s.heap.objs.size := by obtain ⟨_, q, _⟩ := hit; exact Heap.lt_size q
    have hlen := rv.length
    have hlt : i < its.toArray.size := by
      have := (List.getElem?_eq_some_iff.mp hx).1
      rw [List.size_toArray]
      omega
    have nti : a ≠ it := fun z => by
      obtain ⟨o1, q1, c1, _⟩ := hTup
      obtain ⟨o2, q2, c2, _⟩ := hit
      rw [z, q2] at q1
      cases q1
      rw [c2] at c1
      exact absurd (Value.type.inj c1) (by decide)
    have nte : e ≠ a := fun z => by
      obtain ⟨o1, q1, c1, _⟩ := hTup
      rw [← z] at q1
      have q2 : s.heap.get? e = _ := he
      rw [q2] at q1
      cases q1
      exact absurd (Value.type.inj c1) (by decide)
    have D := Draws.tuple (prog := X.prog) (w := X.w) (A := X.A.in1) (show X.A.in1.handled = none from I.ok.hd hc) it a nti its.toArray
    refine wpAny_pyNext_enum_itemD D he ⟨hit, hTup⟩ hlt hne (by simp [hne, nte]) fun u h' tk hu ho hst' hT hsz hk => ?_
    obtain ⟨hit', _⟩ := hst'
    obtain ⟨x2, hx2, ru⟩ : ∃ x2, xs[i]? = some x2 ∧ RelV x2 u := by
      obtain ⟨u', hu', ru⟩ := rv.get hx
      have : its.toArray[i]? = some u' := by simpa using hu'
      rw [this] at hu
      cases hu
      exact ⟨x, hx, ru⟩
    rw [hx] at hx2
    cases hx2
    refine ⟨_, rfl, wpAny_letOwnedTupleGo_enum (s := { s with heap := h', toks := tk + 1 }) ho fun h'' he' sb => ?_⟩
    have hT2 : h''.get? s.heap.objs.size = some { cls := .type "tuple", data := .seq #[.int i tk, u] } := (sb.2 _ (Nat.ne_of_gt hel)).trans hT
    have new : ObjOk X.prog X.w (upd H s.heap.objs.size (.tup [.int (i : Nat), x])) h'' s.heap.objs.size (.tup [.int (i : Nat), x]) :=
      ⟨by show 2 ≤ sizeLine; decide, [.int i tk, u], .cons ⟨_, rfl⟩ (.cons ru .nil), ⟨_, hT2, rfl, _, rfl⟩⟩
    have I1 : Inv X pins σ (upd H s.heap.objs.size (.tup [.int (i : Nat), x])) { s with heap := h'', toks := tk + 1 } :=
      I.turnedNew (ch := [e, it]) (fun b ob hb q => (sb.2 b (fun z => hb (by simp [z]))).trans (hk b ob (fun z => hb (by simp [z])) (fun z => hb (by simp [z])) q)) hf (Nat.le_refl _) new
    refine ⟨.ref s.heap.objs.size, _, I1, rfl, ⟨_, x, rfl, I.hok.fresh (Nat.le_refl _), rfl, fun ys hy => by rw [I.tuple_inj hy hq]; exact hx⟩, ⟨⟨u, ?_⟩, hit'.at fun o q => (sb.2 it (Ne.symm hne)).trans q, hne⟩, fun b hb => ?_⟩
    · have e1 : ((i + 1 : Nat) : Int) = (i : Int) + 1 := by omega
      rw [e1]; exact he'
    · have hb' : b < s.heap.objs.size := by
        have e' : b = e ∨ b = it := by simpa using hb
        rcases e' with z | z
        · rw [z]; exact hel
        · rw [z]; exact hil
      rw [upd_ne (Nat.ne_of_lt hb')]
      exact (hf b hb).1
  done := by
    intro X hP hw hK hc i pins s σ H E I hf st hg
    subst hP hw hK
    obtain ⟨⟨old, he⟩, hit, hne⟩ := st
    obtain ⟨xs, hq, hx⟩ := hg
    obtain ⟨its, rv, p, hz⟩ := I.tuple hq
    have hTup : s.heap.IsTuple a its.toArray := p
    have nti : a ≠ it := fun z => by
      obtain ⟨o1, q1, c1, _⟩ := hTup
      obtain ⟨o2, q2, c2, _⟩ := hit
      rw [z, q2] at q1
      cases q1
      rw [c2] at c1
      exact absurd (Value.type.inj c1) (by decide)
    have D := Draws.tuple (prog := X.prog) (w := X.w) (A := X.A.in1) (show X.A.in1.handled = none from I.ok.hd hc) it a nti its.toArray
    have hl := rv.length
    have hi : its.toArray.size = i := by rw [List.size_toArray]; omega
    subst hi
    refine wpAny_pyNext_enum_endD D he ⟨hit, hTup⟩ fun h' eb => ⟨rfl, ?_⟩
    obtain ⟨f0, f1, f2, f3, f4, f5⟩ := hf it (by simp)
    exact I.turned (t' := s.toks) (fun b o hb q => eb b o hb q) f0 f1 f3 f4 f5
  self := fun A i s Q E st h => let ⟨⟨_, he⟩, _⟩ := st; wpAny_pyIter_enum he h
end MP

/-! A small language with a plain evaluator. Values, the store, what operators and built-ins do. -/
namespace MP
open PySem L2

/-- a value -/
inductive PV where
  | und | non | bl (b : Bool) | int (i : Int) | str (s : Str)
  | tup (xs : List PV) | lst (xs : List PV) | wl (xs : List PV)
  | obj (n : Nat) | fn (x : Str) | ty (T : String) | cls (x : Str)
  | exc (c : Str) (vs : List PV)
  | clo (k : Nat) (env : List PV)

/-- what stands at a place of the store -/
inductive SO where
  | lst (xs : List PV) | dct (kvs : List (Key × PV))

abbrev Store := List SO
abbrev Env := List PV

/-- the end of an expression -/
inductive Res (α : Type) where
  | ok (a : α) (s : Store) | exc (x : PV) (s : Store) | stk
/-- no more than a name: what stands behind it is not walked into -/
structure Tag {α : Type} (a : α) : Type where
def Res.bind {α β : Type} (r : Res α) (f : α → Store → Res β) (_t : Tag f := ⟨⟩) : Res β := match r with
  | .ok a s => f a s
  | .exc x s => .exc x s
  | .stk => .stk
def Res.of {α : Type} (o : Option α) (s : Store) : Res α := match o with
  | some a => .ok a s
  | none => .stk
@[simp] theorem Res.bind_ok {α β : Type} (a : α) (s : Store) (f : α → Store → Res β) : (Res.ok a s).bind f = f a s := rfl
@[simp] theorem Res.bind_exc {α β : Type} (x : PV) (s : Store) (f : α → Store → Res β) : (Res.exc x s : Res α).bind f = .exc x s := rfl
@[simp] theorem Res.bind_stk {α β : Type} (f : α → Store → Res β) : (Res.stk : Res α).bind f = .stk := rfl
@[simp] theorem Res.of_some {α : Type} (a : α) (s : Store) : Res.of (some a) s = .ok a s := rfl
@[simp] theorem Res.of_none {α : Type} (s : Store) : Res.of (none : Option α) s = .stk := rfl

/-! ### looks at values -/
mutual
def PV.beq : PV → PV → Bool
  | .und, .und => true
  | .non, .non => true
  | .bl a, .bl b => a == b
  | .int a, .int b => a == b
  | .str a, .str b => decide (a = b)
  | .tup a, .tup b => PV.beqs a b
  | .lst a, .lst b => PV.beqs a b
  | .wl a, .wl b => PV.beqs a b
  | .obj a, .obj b => a == b
  | .fn a, .fn b => decide (a = b)
  | .ty a, .ty b => decide (a = b)
  | .cls a, .cls b => decide (a = b)
  | .exc a as, .exc b bs => decide (a = b) && PV.beqs as bs
  | .clo a as, .clo b bs => a == b && PV.beqs as bs
  | _, _ => false
def PV.beqs : List PV → List PV → Bool
  | [], [] => true
  | a :: as, b :: bs => PV.beq a b && PV.beqs as bs
  | _, _ => false
end
def beqKs : List (Key × PV) → List (Key × PV) → Bool
  | [], [] => true
  | a :: as, b :: bs => decide (a.1 = b.1) && PV.beq a.2 b.2 && beqKs as bs
  | _, _ => false
def SO.beq : SO → SO → Bool
  | .lst a, .lst b => PV.beqs a b
  | .dct a, .dct b => beqKs a b
  | _, _ => false
def beqSt : Store → Store → Bool
  | [], [] => true
  | a :: as, b :: bs => SO.beq a b && beqSt as bs
  | _, _ => false
mutual
theorem PV.beq_rfl : ∀ x : PV, PV.beq x x = true
  | .und => rfl
  | .non => rfl
  | .bl a => by simp [PV.beq]
  | .int a => by simp [PV.beq]
  | .str a => by simp [PV.beq]
  | .tup a => by simp [PV.beq, PV.beqs_rfl a]
  | .lst a => by simp [PV.beq, PV.beqs_rfl a]
  | .wl a => by simp [PV.beq, PV.beqs_rfl a]
  | .obj a => by simp [PV.beq]
  | .fn a => by simp [PV.beq]
  | .ty a => by simp [PV.beq]
  | .cls a => by simp [PV.beq]
  | .exc a as => by simp [PV.beq, PV.beqs_rfl as]
  | .clo a as => by simp [PV.beq, PV.beqs_rfl as]
theorem PV.beqs_rfl : ∀ x : List PV, PV.beqs x x = true
  | [] => rfl
  | a :: as => by simp [PV.beqs, PV.beq_rfl a, PV.beqs_rfl as]
end
mutual
theorem PV.beq_eq : ∀ x y : PV, PV.beq x y = true → x = y
  | .und, y, h => by cases y <;> simp_all [PV.beq]
  | .non, y, h => by cases y <;> simp_all [PV.beq]
  | .bl a, y, h => by cases y <;> simp_all [PV.beq]
  | .int a, y, h => by cases y <;> simp_all [PV.beq]
  | .str a, y, h => by cases y <;> simp_all [PV.beq]
  | .tup a, y, h => by
    cases y <;> simp [PV.beq] at h ⊢
    exact PV.beqs_eq _ _ h
  | .lst a, y, h => by
    cases y <;> simp [PV.beq] at h ⊢
    exact PV.beqs_eq _ _ h
  | .wl a, y, h => by
    cases y <;> simp [PV.beq] at h ⊢
    exact PV.beqs_eq _ _ h
  | .obj a, y, h => by cases y <;> simp_all [PV.beq]
  | .fn a, y, h => by cases y <;> simp_all [PV.beq]
  | .ty a, y, h => by cases y <;> simp_all [PV.beq]
  | .cls a, y, h => by cases y <;> simp_all [PV.beq]
  | .exc a as, y, h => by
    cases y <;> simp [PV.beq] at h ⊢
    exact ⟨h.1, PV.beqs_eq _ _ h.2⟩
  | .clo a as, y, h => by
    cases y <;> simp [PV.beq] at h ⊢
    exact ⟨h.1, PV.beqs_eq _ _ h.2⟩
theorem PV.beqs_eq : ∀ x y : List PV, PV.beqs x y = true → x = y
  | [], [], _ => rfl
  | [], _ :: _, h => by simp [PV.beqs] at h
  | _ :: _, [], h => by simp [PV.beqs] at h
  | a :: as, b :: bs, h => by
    simp [PV.beqs] at h
    rw [PV.beq_eq a b h.1, PV.beqs_eq as bs h.2]
end
theorem beqKs_rfl : ∀ x, beqKs x x = true
  | [] => rfl
  | a :: as => by simp [beqKs, PV.beq_rfl, beqKs_rfl as]
theorem beqKs_eq : ∀ x y, beqKs x y = true → x = y
  | [], [], _ => rfl
  | [], _ :: _, h => by simp [beqKs] at h
  | _ :: _, [], h => by simp [beqKs] at h
  | (k, a) :: as, (l, b) :: bs, h => by
    simp [beqKs] at h
    obtain ⟨⟨h1, h2⟩, h3⟩ := h
    rw [h1, PV.beq_eq a b h2, beqKs_eq as bs h3]
theorem SO.beq_rfl : ∀ x, SO.beq x x = true
  | .lst a => by simp [SO.beq, PV.beqs_rfl]
  | .dct a => by simp [SO.beq, beqKs_rfl]
theorem SO.beq_eq : ∀ x y, SO.beq x y = true → x = y
  | .lst a, y, h => by
    cases y <;> simp [SO.beq] at h ⊢
    exact PV.beqs_eq _ _ h
  | .dct a, y, h => by
    cases y <;> simp [SO.beq] at h ⊢
    exact beqKs_eq _ _ h
@[simp] theorem beqSt_rfl : ∀ x, beqSt x x = true
  | [] => rfl
  | a :: as => by simp [beqSt, SO.beq_rfl, beqSt_rfl as]
theorem beqSt_eq : ∀ x y, beqSt x y = true → x = y
  | [], [], _ => rfl
  | [], _ :: _, h => by simp [beqSt] at h
  | _ :: _, [], h => by simp [beqSt] at h
  | a :: as, b :: bs, h => by
    simp [beqSt] at h
    rw [SO.beq_eq a b h.1, beqSt_eq as bs h.2]

mutual
/-- all places of the store that a value names lie below n; no closure -/
def PV.inb (n : Nat) : PV → Bool
  | .tup a => PV.inbs n a
  | .lst a => PV.inbs n a
  | .wl a => PV.inbs n a
  | .obj a => decide (a < n)
  | .exc _ as => PV.inbs n as
  | .clo _ _ => false
  | _ => true
def PV.inbs (n : Nat) : List PV → Bool
  | [] => true
  | a :: as => PV.inb n a && PV.inbs n as
end
def SO.inb (n : Nat) : SO → Bool
  | .lst a => PV.inbs n a
  | .dct a => a.all fun p => PV.inb n p.2
@[simp] theorem inbs_nil (n : Nat) : PV.inbs n [] = true := by rw [PV.inbs]
@[simp] theorem inbs_cons (n : Nat) (a : PV) (as : List PV) : PV.inbs n (a :: as) = (PV.inb n a && PV.inbs n as) := by rw [PV.inbs]
theorem inbs_all (n : Nat) : ∀ as : List PV, PV.inbs n as = as.all (PV.inb n)
  | [] => by simp
  | a :: as => by rw [inbs_cons, inbs_all n as, List.all_cons]

/-- a value that is handed back: lists of the store above n are taken for values, nobody else has them -/
def freeze (n : Nat) (s : Store) : Nat → PV → Option PV
  | 0, v => if v.inb n then some v else none
  | k + 1, v => if v.inb n then some v else match v with
    | .obj m => match s[m]? with
      | some (.lst xs) => (xs.mapM (freeze n s k)).map .lst
      | _ => none
    | .tup xs => (xs.mapM (freeze n s k)).map .tup
    | _ => none

/-! ### the store's reads -/
def asSeq (s : Store) : PV → Option (List PV)
  | .tup xs => some xs
  | .lst xs => some xs
  | .wl xs => some xs
  | .obj n => match s[n]? with | some (.lst xs) => some xs | _ => none
  | _ => none
def asLst (s : Store) : PV → Option (List PV)
  | .lst xs => some xs
  | .obj n => match s[n]? with | some (.lst xs) => some xs | _ => none
  | _ => none
def strItems (z : Str) : List PV := z.cps.toList.map fun c => .str ⟨#[c]⟩

/-- small enough to be a list's, a text's length -/
abbrev line : Nat := sizeLine

/-! ### truth, length -/
def truth (s : Store) : PV → Option Bool
  | .non => some false
  | .bl b => some b
  | .int i => some (i != 0)
  | .str z => if z.length ≤ line then some (z.length != 0) else none
  | .tup xs => some (!xs.isEmpty)
  | .lst xs => some (!xs.isEmpty)
  | .wl xs => some (!xs.isEmpty)
  | .obj n => match s[n]? with | some (.lst xs) => some (!xs.isEmpty) | some (.dct kvs) => some (!kvs.isEmpty) | _ => none
  | _ => none

/-! ### data, for == and in -/
mutual
def dat (s : Store) : PV → Option PyData
  | .non => some .none
  | .bl b => some (.bool b)
  | .int i => some (.int i)
  | .str z => some (.str z)
  | .tup xs => (dats s xs).map .tuple
  | .lst xs => (dats s xs).map .list
  | .wl xs => (dats s xs).map .list
  | _ => none
def dats (s : Store) : List PV → Option (List PyData)
  | [] => some []
  | a :: as => match dat s a, dats s as with
    | some d, some ds => some (d :: ds)
    | _, _ => none
end
/-- a list of the store, too -/
def datO (s : Store) : PV → Option PyData
  | .obj n => match s[n]? with | some (.lst xs) => (dats s xs).map .list | _ => none
  | v => dat s v
def eqvD (s : Store) (x y : PV) : Option Bool := match datO s x, datO s y with
  | some d, some e => if SeqAt.shaped d && SeqAt.shaped e then some (PyData.eqv d e) else none
  | _, _ => none
def eqv (s : Store) (x y : PV) : Option Bool := match x, y with
  | .str a, .str b => some (decide (a = b))
  | .int a, .int b => some (decide (a = b))
  | x, y => eqvD s x y

/-! ### operators -/
inductive BOp where | add | sub | mul | fdiv | mod | pow
  deriving DecidableEq
inductive COp where | eq | ne | lt | le | gt | ge | inn | nin | is | isn
  deriving DecidableEq
def bits (i : Int) : Nat := i.natAbs.log2
def binSem (op : BOp) (s : Store) (x y : PV) : Option PV := match op, x, y with
  | .add, .int i, .int j => some (.int (i + j))
  | .sub, .int i, .int j => some (.int (i - j))
  | .mul, .int i, .int j => if bits i + bits j < 900000 then some (.int (i * j)) else none
  | .fdiv, .int i, .int j => if 0 < j ∧ bits j < 9000 then some (.int (i / j)) else none
  | .mod, .int i, .int j => if 0 < j then some (.int (i % j)) else none
  | .pow, .int i, .int j => if 0 ≤ j ∧ j ≤ 1000000 ∧ i.natAbs < 2 ^ 64 then some (.int (i ^ j.toNat)) else none
  | .add, .str a, .str b => if a.length + b.length ≤ line then some (.str (a ++ b)) else none
  | .add, .tup a, .tup b => if a.length + b.length ≤ line then some (.tup (a ++ b)) else none
  | .add, x, y => match asLst s x, asLst s y with
    | some a, some b => if a.length + b.length ≤ line then some (.lst (a ++ b)) else none
    | _, _ => none
  | .mul, .str a, .int k => if -(2 ^ 62) ≤ k ∧ k < 2 ^ 62 ∧ a.length * k.toNat ≤ line then some (.str (Txt.mul a k)) else none
  | .mul, x, .int k => match asLst s x with
    | some a => if -(2 ^ 63) ≤ k ∧ k < 2 ^ 63 ∧ a.length * k.toNat ≤ line then some (.lst (List.replicate k.toNat a).flatten) else none
    | none => none
  | _, _, _ => none
def flat : PV → Bool
  | .non => true
  | .bl _ => true
  | .int _ => true
  | .str _ => true
  | _ => false
def inSem (s : Store) (x y : PV) : Option Bool := match x, y with
  | .str a, .str b => some (!(Builtin.Str.occurrences b a 0 b.length 1).isEmpty)
  | x, .obj n => match s[n]? with
    | some (.dct kvs) => match x with
      | .int i => some (kvs.any fun p => decide (p.1 = .inl i))
      | .str z => some (kvs.any fun p => decide (p.1 = .inr z))
      | _ => none
    | some (.lst xs) => match dat s x, dats s xs with
      | some d, some ds => if SeqAt.shaped d && SeqAt.shaped (.list ds) then some (ds.any fun z => PyData.eqv z d) else none
      | _, _ => none
    | none => none
  | x, y => match asSeq s y with
    | some xs => match dat s x, dats s xs with
      | some d, some ds => if SeqAt.shaped d && SeqAt.shaped (.list ds) then some (ds.any fun z => PyData.eqv z d) else none
      | _, _ => none
    | none => none
def cmpSem (op : COp) (s : Store) (x y : PV) : Option Bool := match op, x, y with
  | .is, x, .non => match x with | .und => none | .non => some true | _ => some false
  | .isn, x, .non => match x with | .und => none | .non => some false | _ => some true
  | .is, .bl a, .bl b => some (decide (a = b))
  | .isn, .bl a, .bl b => some (!decide (a = b))
  | .lt, .int i, .int j => some (decide (i < j))
  | .le, .int i, .int j => some (decide (i ≤ j))
  | .gt, .int i, .int j => some (decide (j < i))
  | .ge, .int i, .int j => some (decide (j ≤ i))
  | .lt, .str a, .str b => some (decide (a.cps.toList < b.cps.toList))
  | .le, .str a, .str b => some (!decide (b.cps.toList < a.cps.toList))
  | .gt, .str a, .str b => some (decide (b.cps.toList < a.cps.toList))
  | .ge, .str a, .str b => some (!decide (a.cps.toList < b.cps.toList))
  | .eq, x, y => eqv s x y
  | .ne, x, y => (eqv s x y).map (!·)
  | .inn, x, y => inSem s x y
  | .nin, x, y => (inSem s x y).map (!·)
  | _, _, _ => none
def cutP (xs : List PV) (lo hi : Option Int) : List PV := (xs.drop (HT.sIx xs.length 0 lo)).take (HT.sIx xs.length xs.length hi - HT.sIx xs.length 0 lo)
def dgetK (kvs : List (Key × PV)) (k : Key) : Option PV := (kvs.find? fun p => decide (p.1 = k)).map (·.2)
def idxSem (s : Store) (x y : PV) : Option PV := match x, y with
  | .str z, .int i => if z.length ≤ line then (atI z.cps.toList i).map fun c => .str ⟨#[c]⟩ else none
  | .obj n, y => match s[n]? with
    | some (.lst xs) => match y with | .int i => atI xs i | _ => none
    | some (.dct kvs) => match y with | .int i => dgetK kvs (.inl i) | .str z => dgetK kvs (.inr z) | _ => none
    | none => none
  | x, .int i => match asSeq s x with | some xs => atI xs i | none => none
  | _, _ => none
def sliSem (s : Store) (x : PV) (lo hi : Option Int) : Option PV := match x with
  | .str z => if z.length ≤ line then some (.str (cutS z lo hi)) else none
  | .tup xs => some (.tup (cutP xs lo hi))
  | x => match asSeq s x with | some xs => some (.lst (cutP xs lo hi)) | none => none
end MP

/-! The small language: what is written, what it does. -/
namespace MP
open PySem L2

/-- built-in functions, by how many they are given -/
inductive Blt where
  | len | abs | max2 | min2 | int1 | str1 | ord | tuple1 | list1 | sum1 | all1 | any1 | repr1 | bitlen
  | sorted1 | max1 | min1
  | nset1 | ssort1        -- len(set(x)), sorted(set(x))
  | isT (T : String)      -- isinstance(x, T), T a built-in class
  | isC (c : Str)         -- isinstance(x, C), C a class of the text
  deriving DecidableEq
/-- methods of built-in classes -/
inductive Mth where
  | append | pop0 | pop1 | extend | insert | join | split1 | sindex | lindex | get2 | replace
  deriving DecidableEq

/-- a target: a name's slot; a tuple of names -/
inductive Tg where
  | one (i : Nat) | many (is : List Nat)

mutual
inductive IE where
  | int (i : Int) | str (s : Str) | bl (b : Bool) | non
  | var (i : Nat)
  | glob (x : Str)
  | bin (bx : Bool) (op : BOp) (a b : IE)
  | neg (a : IE) | nt (a : IE)
  | and (a b : IE) | or (a b : IE)
  | cmp (op : COp) (a b : IE) | chain (op op' : COp) (a b c : IE)
  | ife (c a b : IE)
  | tup (es : IEs) | lst (bx : Bool) (es : IEs) | dct (ks : List Key) (es : IEs)
  | call (f : Str) (es : IEs)
  | callk (f : Str) (es ks : IEs) (o : List Nat)
  | caught (c : Str) (e : IE)
  | blt (bx : Bool) (f : Blt) (es : IEs)
  | meth (m : Mth) (o : IE) (es : IEs)
  | idx (a b : IE) | sli (bx : Bool) (a : IE) (lo hi : IO) | rev (bx : Bool) (a : IE)
  | comp (bx : Bool) (elt : IE) (tg : Tg) (own : List Nat) (it : IT) (cond : IO)
  | attr (a : IE) (f : Str)
  | new (c : Str) (es : IEs)
  | callv (i : Nat) (es : IEs)
inductive IEs where
  | nil | cons (e : IE) (es : IEs)
inductive IO where
  | no | so (e : IE)
/-- what is walked -/
inductive IT where
  | val (e : IE) | rng1 (a : IE) | rng2 (a b : IE) | rng3 (a b c : IE) | enum (e : IE) | zip (a b : IE)
end

mutual
inductive IS where
  | expr (e : IE)
  | asg (i : Nat) (e : IE)
  | asgt (is : List Nat) (e : IE)
  | par (i j : Nat) (a b : IE)
  | asgi (o i e : IE)
  | aug (i : Nat) (op : BOp) (e : IE)
  | ife (c : IE) (a b : ISs)
  | for (tg : Tg) (it : IT) (b : ISs)
  | whl (c : IE) (b : ISs)
  | ret (e : IE) | ret0 | brk | cnt | pass
  | raise (c : Str) (es : IEs)
  | try1 (b : ISs) (c : Str) (i : Nat) (h : ISs)
inductive ISs where
  | nil | cons (s : IS) (ss : ISs)
end

/-- what lies around: calls of defs, of closures; attributes' names of errors; which error is below which -/
structure Calls where
  fn : Str → List PV → Store → Res PV
  fn2 : Str → List PV → Store → Res PV
  glob : Str → Option PV
  fields : Str → List Str
  sub : Str → Str → Option Bool
  fuel : Nat

/-- within a lambda: one call less -/
def Calls.down (C : Calls) : Calls := ⟨C.fn2, fun _ _ _ => .stk, C.glob, C.fields, C.sub, C.fuel⟩
/-- a list, as a value or in the store -/
def mkL (bx : Bool) (v : PV) (s : Store) : Res PV := if bx then
    match v with | .lst xs => .ok (.obj s.length) (s ++ [.lst xs]) | _ => .stk
  else .ok v s
def mkO (bx : Bool) (o : Option PV) (s : Store) : Res PV := match o with
  | some v => mkL bx v s
  | none => .stk

def bindTg (tg : Tg) (x : PV) (s : Store) (env : Env) : Option Env := match tg with
  | .one i => some (env.set i x)
  | .many is => match x with
    | .tup xs => if xs.length = is.length then some ((is.zip xs).foldl (fun e p => e.set p.1 p.2) env) else none
    | _ => none

/-- what a for walks: the items, and the lists of the store among them, which must stay -/
structure ItV where
  items : List PV
  live : List (Nat × List PV)
def liveOf (v : PV) (xs : List PV) : List (Nat × List PV) := match v with
  | .obj n => [(n, xs)]
  | _ => []
def liveOk (s : Store) (l : List (Nat × List PV)) : Bool := l.all fun p => match s[p.1]? with
  | some (.lst xs) => PV.beqs xs p.2
  | _ => false
def intRange (a b : Int) : List PV := (List.range (b - a).toNat).map fun (k : Nat) => .int (a + (k : Int))
def isTup : PV → Bool
  | .tup _ => true
  | _ => false
def small62 (i : Int) : Bool := decide (-(2 ^ 62) ≤ i ∧ i < 2 ^ 62)

def compLoop (f : PV → Store → Res (Option PV)) (live : List (Nat × List PV)) : List PV → List PV → Store → Res (List PV)
  | [], acc, s => if liveOk s live then .ok acc s else .stk
  | x :: r, acc, s => if liveOk s live then
      match f x s with
      | .ok (some y) s' => if acc.length < line then compLoop f live r (acc ++ [y]) s' else .stk
      | .ok none s' => compLoop f live r acc s'
      | _ => .stk
    else .stk

def compF (tg : Tg) (own : List Nat) (mt : Env → Store → Res Bool) (me : Env → Store → Res PV) (env : Env) : PV → Store → Res (Option PV) := fun x s => match bindTg tg x s (own.foldl (fun e i => e.set i .und) env) with
        | some env' => (mt env' s).bind fun t s => if t then (me env' s).bind fun y s => .ok (some y) s else .ok none s
        | none => .stk
def keyOf? : PV → Option Key
  | .int i => some (.inl i)
  | .str z => some (.inr z)
  | _ => none
def dputK (kvs : List (Key × PV)) (k : Key) (v : PV) : List (Key × PV) :=
  if (kvs.any fun kv => decide (kv.1 = k)) = true then kvs.map (fun kv => if kv.1 = k then (kv.1, v) else kv) else kvs ++ [(k, v)]

/-- the class of a value, for isinstance -/
def isTy (s : Store) (T : String) : PV → Option Bool
  | .non => some (decide (T = "NoneType"))
  | .bl _ => some (decide (T = "bool" ∨ T = "int"))
  | .int _ => some (decide (T = "int"))
  | .str _ => some (decide (T = "str"))
  | .tup _ => some (decide (T = "tuple"))
  | .lst _ => some (decide (T = "list"))
  | .wl _ => some (decide (T = "list"))
  | .obj n => match s[n]? with | some (.lst _) => some (decide (T = "list")) | some (.dct _) => some (decide (T = "dict")) | none => none
  | _ => none
def isCl (sub : Str → Str → Option Bool) (s : Store) (c : Str) : PV → Option Bool
  | .non => (sub c c).map fun _ => false
  | .bl _ => (sub c c).map fun _ => false
  | .int _ => (sub c c).map fun _ => false
  | .str _ => (sub c c).map fun _ => false
  | .tup _ => (sub c c).map fun _ => false
  | .lst _ => (sub c c).map fun _ => false
  | .wl _ => (sub c c).map fun _ => false
  | .obj n => if n < s.length then (sub c c).map fun _ => false else none
  | .exc d [] => sub d c
  | _ => none

def ints? : List PV → Option (List Int)
  | [] => some []
  | .int i :: r => (ints? r).map (i :: ·)
  | _ => none
def bools? : List PV → Option (List Bool)
  | [] => some []
  | .bl i :: r => (bools? r).map (i :: ·)
  | _ => none
def strs? : List PV → Option (List Str)
  | [] => some []
  | .str i :: r => (strs? r).map (i :: ·)
  | _ => none

/-- a list, no tuple -/
def asLs (s : Store) (v : PV) : Option (List PV) := match v with
  | .tup _ => none
  | v => asSeq s v
def maxI : List Int → Option Int
  | [] => none
  | x :: xs => some (xs.foldl max x)
def minI : List Int → Option Int
  | [] => none
  | x :: xs => some (xs.foldl min x)
def isDisp : PyData → Bool
  | .list _ | .tuple _ => true
  | _ => false
def bltSem (sub : Str → Str → Option Bool) (f : Blt) (s : Store) (vs : List PV) : Option PV := match f, vs with
  | .len, [.str z] => if z.length ≤ line then some (.int z.length) else none
  | .len, [v] => match asSeq s v with | some xs => some (.int xs.length) | none => none
  | .abs, [.int i] => some (.int (if i < 0 then -i else i))
  | .max2, [.int i, .int j] => some (.int (if j > i then j else i))
  | .min2, [.int i, .int j] => some (.int (if j < i then j else i))
  | .int1, [.int i] => some (.int i)
  | .int1, [.bl b] => some (.int (if b then 1 else 0))
  | .str1, [.int i] => if bits i < 1920 then some (.str (toString i)) else none
  | .ord, [.str z] => if z.length = 1 then some (.int (z.cps.getD 0 0 : Nat)) else none
  | .tuple1, [v] => match v with
    | .tup xs => some (.tup xs)
    | v => (asSeq s v).map .tup
  | .list1, [v] => (asSeq s v).map .lst
  | .int1, [.str z] => if z.length ≤ 640 then (PySem.intText? z).map .int else none
  | .all1, [v] => (asLs s v).bind fun xs => (bools? xs).map fun l => .bl (l.all id)
  | .any1, [v] => (asLs s v).bind fun xs => (bools? xs).map fun l => .bl (l.any id)
  | .sum1, [v] => (asLs s v).bind fun xs => (ints? xs).map fun l => .int l.sum
  | .isT T, [v] => (isTy s T v).map .bl
  | .isC c, [v] => (isCl sub s c v).map .bl
  | .repr1, [v] => match datO s v with
    | some d => if isDisp d && d.showable && !d.hasDict && decide (d.depth ≤ 60) && decide (d.shown.length ≤ line) then some (.str d.shown) else none
    | none => none
  | .sorted1, [v] => (asSeq s v).bind fun xs => (ints? xs).map fun l => .lst ((sortI l).map .int)
  | .max1, [v] => (asLs s v).bind fun xs => (ints? xs).bind fun l => (maxI l).map .int
  | .min1, [v] => (asLs s v).bind fun xs => (ints? xs).bind fun l => (minI l).map .int
  | .nset1, [v] => (asSeq s v).bind fun xs => (ints? xs).bind fun l => if l.length ≤ 2000 then some (.int (onceI l).length) else none
  | .ssort1, [v] => (asSeq s v).bind fun xs => (ints? xs).bind fun l => if l.length ≤ 2000 ∧ (onceI l).length < 64 then some (.lst ((sortI (onceI l)).map .int)) else none
  | _, _ => none

/-- methods: the value, the store behind -/
def mthSem (m : Mth) (s : Store) (o : PV) (vs : List PV) : Option (PV × Store) := match m, o, vs with
  | .append, .obj n, [v] => match s[n]? with
    | some (.lst xs) => if xs.length < line then some (.non, s.set n (.lst (xs ++ [v]))) else none
    | _ => none
  | .pop0, .obj n, [] => match s[n]? with
    | some (.lst xs) => xs[xs.length - 1]?.map fun y => (y, s.set n (.lst xs.dropLast))
    | _ => none
  | .pop1, .obj n, [.int i] => match s[n]? with
    | some (.lst xs) => if -(2 ^ 63) ≤ i ∧ i < 2 ^ 63 then (ixN xs.length i).bind fun k => xs[k]?.map fun y => (y, s.set n (.lst (xs.eraseIdx k))) else none
    | _ => none
  | .join, .str z, [v] => match asSeq s v with
    | some xs => match strs? xs with
      | some ys => if (ys.map (·.length)).sum + ys.length * z.length ≤ 16777216 then some (.str (Txt.join z ys), s) else none
      | none => none
    | none => none
  | .sindex, .str a, [.str b] => match Builtin.Str.occurrences a b 0 a.length 1 with | i :: _ => some (.int (i : Nat), s) | [] => none
  | .split1, .str a, [.str b] => if b.length ≠ 0 ∧ a.length + 2 ≤ line then some (.lst ((Txt.split a b).map .str), s) else none
  | _, _, _ => none

/-- what a method is called on -/
def recv (m : Mth) (s : Store) (x : PV) : Bool := match m with
  | .append | .pop0 | .pop1 | .extend | .insert | .lindex => match x with | .obj n => (match s[n]? with | some (.lst _) => true | _ => false) | .lst _ => true | _ => false
  | .join | .split1 | .sindex | .replace => match x with | .str _ => true | _ => false
  | .get2 => match x with | .obj n => (match s[n]? with | some (.dct _) => true | _ => false) | _ => false
def mthEnd (o : Option (PV × Store)) : Res PV := match o with
  | some (v, s') => .ok v s'
  | none => .stk

/-- a call is made, its error held -/
def caughtSem (sub : Str → Str → Option Bool) (c : Str) (r : Res PV) : Res PV := match r with
  | .ok _ s => .ok .non s
  | .exc x s => match x with
    | .exc d vs => match sub d c with
      | some true => .ok (.exc d vs) s
      | _ => .stk
    | _ => .stk
  | .stk => .stk
mutual
def ev (C : Calls) : IE → Env → Store → Res PV
  | .int i, _, s => .ok (.int i) s
  | .str z, _, s => .ok (.str z) s
  | .bl b, _, s => .ok (.bl b) s
  | .non, _, s => .ok .non s
  | .var i, env, s => match env[i]? with
    | some .und => .stk
    | some v => .ok v s
    | none => .stk
  | .glob x, _, s => .of (C.glob x) s
  | .bin bx op a b, env, s => (ev C a env s).bind fun x s => (ev C b env s).bind fun y s => mkO bx (binSem op s x y) s
  | .neg a, env, s => (ev C a env s).bind fun x s => match x with | .int i => .ok (.int (-i)) s | _ => .stk
  | .nt a, env, s => (ev C a env s).bind fun x s => (Res.of (truth s x) s).bind fun b s => .ok (.bl (!b)) s
  | .and a b, env, s => (ev C a env s).bind fun x s => (Res.of (truth s x) s).bind fun t s => if t then ev C b env s else .ok x s
  | .or a b, env, s => (ev C a env s).bind fun x s => (Res.of (truth s x) s).bind fun t s => if t then .ok x s else ev C b env s
  | .cmp op a b, env, s => (ev C a env s).bind fun x s => (ev C b env s).bind fun y s => .of ((cmpSem op s x y).map .bl) s
  | .chain op op' a b c, env, s => (ev C a env s).bind fun x s => (ev C b env s).bind fun y s => (Res.of (cmpSem op s x y) s).bind fun t s =>
      if t then (ev C c env s).bind fun z s => .of ((cmpSem op' s y z).map .bl) s else .ok (.bl false) s
  | .ife c a b, env, s => (ev C c env s).bind fun x s => (Res.of (truth s x) s).bind fun t s => if t then ev C a env s else ev C b env s
  | .tup es, env, s => (evs C es env s).bind fun xs s => if xs.length ≤ line then .ok (.tup xs) s else .stk
  | .lst bx es, env, s => (evs C es env s).bind fun xs s => if xs.length ≤ line then mkL bx (.lst xs) s else .stk
  | .dct ks es, env, s => (evs C es env (s ++ [.dct []])).bind fun xs s' => match s'[s.length]? with
      | some (.dct []) => if xs.length = ks.length ∧ ks.length ≤ 15 ∧ ks.Nodup then .ok (.obj s.length) (s'.set s.length (.dct (ks.zip xs))) else .stk
      | _ => .stk
  | .call f es, env, s => (evs C es env s).bind fun xs s => C.fn f xs s
  | .callk f es ks o, env, s => (evs C es env s).bind fun xs s => (evs C ks env s).bind fun zs s => match o.mapM fun i => (xs ++ zs)[i]? with | some ys => C.fn f ys s | none => .stk
  | .caught c e, env, s => caughtSem C.sub c (ev C.down e env s)
  | .blt bx f es, env, s => (evs C es env s).bind fun xs s => mkO bx (bltSem C.sub f s xs) s
  | .meth m o es, env, s => (ev C o env s).bind fun x s => if recv m s x then (evs C es env s).bind fun xs s => mthEnd (mthSem m s x xs) else .stk
  | .idx a b, env, s => (ev C a env s).bind fun x s => (ev C b env s).bind fun y s => .of (idxSem s x y) s
  | .sli bx a lo hi, env, s => (ev C a env s).bind fun x s => (evo C lo env s).bind fun l s => (evo C hi env s).bind fun h s => mkO bx (sliSem s x l h) s
  | .rev bx a, env, s => (ev C a env s).bind fun x s => match x with
      | .str z => if z.length ≤ line then .ok (.str ⟨z.cps.reverse⟩) s else .stk
      | .tup xs => .ok (.tup xs.reverse) s
      | x => match asSeq s x with | some xs => mkL bx (.lst xs.reverse) s | none => .stk
  | .comp bx elt tg own it cond, env, s => (evit C it env s).bind fun w s =>
      (compLoop (compF tg own (match cond with
        | .no => fun _ s => .ok true s
        | .so c => fun env s => (ev C c env s).bind fun x s => Res.of (truth s x) s) (fun env s => ev C elt env s) env) w.live w.items [] s).bind fun xs s => mkL bx (.lst xs) s
  | .attr a f, env, s => (ev C a env s).bind fun x s => match x with
      | .exc c vs => .of (((C.fields c).zip vs).lookup f) s
      | _ => .stk
  | .new c es, env, s => (evs C es env s).bind fun xs s => .ok (.exc c (if (C.fields c).isEmpty then [] else xs)) s
  | .callv i es, env, s => match env[i]? with
    | some (.fn f) => match C.glob f with
      | some (.fn _) => (evs C es env s).bind fun xs s => C.fn f xs s
      | _ => .stk
    | _ => .stk
def evs (C : Calls) : IEs → Env → Store → Res (List PV)
  | .nil, _, s => .ok [] s
  | .cons e es, env, s => (ev C e env s).bind fun x s => (evs C es env s).bind fun xs s => .ok (x :: xs) s
def evo (C : Calls) : IO → Env → Store → Res (Option Int)
  | .no, _, s => .ok none s
  | .so e, env, s => (ev C e env s).bind fun x s => match x with | .int i => .ok (some i) s | _ => .stk
def evit (C : Calls) : IT → Env → Store → Res ItV
  | .val e, env, s => (ev C e env s).bind fun v s => match v with
      | .str z => .ok ⟨strItems z, []⟩ s
      | v => match asSeq s v with | some xs => .ok ⟨xs, liveOf v xs⟩ s | none => .stk
  | .rng1 a, env, s => (ev C a env s).bind fun x s => match x with
      | .int j => if small62 j then .ok ⟨intRange 0 j, []⟩ s else .stk
      | _ => .stk
  | .rng2 a b, env, s => (ev C a env s).bind fun x s => (ev C b env s).bind fun y s => match x, y with
      | .int i, .int j => if small62 i && small62 j then .ok ⟨intRange i j, []⟩ s else .stk
      | _, _ => .stk
  | .rng3 a b c, env, s => (ev C a env s).bind fun x s => (ev C b env s).bind fun y s => (ev C c env s).bind fun z s => match x, y, z with
      | .int i, .int j, .int (-1) => if small62 i && small62 j then .ok ⟨(List.range (i - j).toNat).map fun (k : Nat) => .int (i - (k : Int)), []⟩ s else .stk
      | _, _, _ => .stk
  | .enum e, env, s => (ev C e env s).bind fun v s => match v with
      | .str z => .ok ⟨(strItems z).zipIdx.map fun p => .tup [.int (p.2 : Nat), p.1], []⟩ s
      | v => match asSeq s v with | some xs => .ok ⟨xs.zipIdx.map fun p => .tup [.int (p.2 : Nat), p.1], liveOf v xs⟩ s | none => .stk
  | .zip a b, env, s => (ev C a env s).bind fun v s => (ev C b env s).bind fun u s => match asSeq s v, asSeq s u with
      | some xs, some ys => if isTup v != isTup u then .stk else .ok ⟨(xs.zip ys).map fun p => .tup [p.1, p.2], liveOf v xs ++ liveOf u ys⟩ s
      | _, _ => .stk
end

/-- the end of a statement -/
inductive SR where
  | nx (env : Env) (s : Store) | rt (v : PV) (s : Store) | bk (env : Env) (s : Store) | ct (env : Env) (s : Store) | exc (x : PV) (env : Env) (s : Store) | stk
def Res.sr {α : Type} (r : Res α) (env : Env) (f : α → Store → SR) (_t : Tag f := ⟨⟩) : SR := match r with
  | .ok a s => f a s
  | .exc x s => .exc x env s
  | .stk => .stk
@[simp] theorem Res.sr_ok {α : Type} (a : α) (s : Store) (env : Env) (f : α → Store → SR) : (Res.ok a s).sr env f = f a s := rfl
@[simp] theorem Res.sr_exc {α : Type} (x : PV) (s : Store) (env : Env) (f : α → Store → SR) : (Res.exc x s : Res α).sr env f = .exc x env s := rfl
@[simp] theorem Res.sr_stk {α : Type} (env : Env) (f : α → Store → SR) : (Res.stk : Res α).sr env f = .stk := rfl
def SR.andThen (r : SR) (f : Env → Store → SR) (_t : Tag f := ⟨⟩) : SR := match r with
  | .nx env s => f env s
  | r => r
@[simp] theorem SR.andThen_nx (env : Env) (s : Store) (f : Env → Store → SR) : (SR.nx env s).andThen f = f env s := rfl
@[simp] theorem SR.andThen_rt (v : PV) (s : Store) (f : Env → Store → SR) : (SR.rt v s).andThen f = .rt v s := rfl
@[simp] theorem SR.andThen_bk (env : Env) (s : Store) (f : Env → Store → SR) : (SR.bk env s).andThen f = .bk env s := rfl
@[simp] theorem SR.andThen_ct (env : Env) (s : Store) (f : Env → Store → SR) : (SR.ct env s).andThen f = .ct env s := rfl
@[simp] theorem SR.andThen_exc (x : PV) (env : Env) (s : Store) (f : Env → Store → SR) : (SR.exc x env s).andThen f = .exc x env s := rfl
@[simp] theorem SR.andThen_stk (f : Env → Store → SR) : SR.stk.andThen f = .stk := rfl

def forLoop (f : PV → Env → Store → SR) (live : List (Nat × List PV)) : List PV → Env → Store → SR
  | [], env, s => if liveOk s live then .nx env s else .stk
  | x :: r, env, s => if liveOk s live then
      match f x env s with
      | .nx env' s' => forLoop f live r env' s'
      | .ct env' s' => forLoop f live r env' s'
      | .bk env' s' => .nx env' s'
      | r => r
    else .stk
def whlLoop (c : Env → Store → Res Bool) (f : Env → Store → SR) : Nat → Env → Store → SR
  | 0, _, _ => .stk
  | n + 1, env, s => (c env s).sr env fun t s => if t then
      match f env s with
      | .nx env' s' => whlLoop c f n env' s'
      | .ct env' s' => whlLoop c f n env' s'
      | .bk env' s' => .nx env' s'
      | r => r
    else .nx env s

/-- what the clause makes of the body's end -/
def tryAs (sub : Str → Str → Option Bool) (c : Str) (i : Nat) (mh : Env → Store → SR) (r : SR) : SR := match r with
      | .exc x env' s' => match x with
        | .exc d vs => match sub d c with
          | none => .stk
          | some false => .exc x env' s'
          | some true => match mh (env'.set i x) s' with
              | .nx env'' s'' => .nx (env''.set i .und) s''
              | .bk env'' s'' => .bk (env''.set i .und) s''
              | .ct env'' s'' => .ct (env''.set i .und) s''
              | .rt v s'' => .rt v s''
              | _ => .stk
        | _ => .stk
      | r => r
def augSem (op : BOp) (env : Env) (i : Nat) (a : Int) (y : PV) (s : Store) : SR := match op, y with
  | .add, .int b => .nx (env.set i (.int (a + b))) s
  | .sub, .int b => .nx (env.set i (.int (a - b))) s
  | _, _ => .stk
section
variable (C : Calls)
mutual
def ex : IS → Env → Store → SR
  | .expr e, env, s => (ev C e env s).sr env fun _ s => .nx env s
  | .asg i e, env, s => (ev C e env s).sr env fun x s => .nx (env.set i x) s
  | .asgt is e, env, s => (ev C e env s).sr env fun x s => match bindTg (.many is) x s env with | some env' => .nx env' s | none => .stk
  | .par i j a b, env, s => (ev C a env s).sr env fun x s => (ev C b env s).sr env fun y s => .nx ((env.set i x).set j y) s
  | .asgi o i e, env, s => (ev C e env s).sr env fun v s => (ev C o env s).sr env fun x s => (ev C i env s).sr env fun y s => match x with
      | .obj n => match s[n]? with
        | some (.lst xs) => match y with
          | .int k => match ixN xs.length k with | some j => .nx env (s.set n (.lst (xs.set j v))) | none => .stk
          | _ => .stk
        | some (.dct kvs) => match keyOf? y with
          | some k => if kvs.length < line then .nx env (s.set n (.dct (dputK kvs k v))) else .stk
          | none => .stk
        | none => .stk
      | _ => .stk
  | .aug i op e, env, s => match env[i]? with
      | some (.int a) => (ev C e env s).sr env fun y s => augSem op env i a y s
      | _ => .stk
  | .ife c a b, env, s => (ev C c env s).sr env fun x s => (Res.of (truth s x) s).sr env fun t s => if t then exs a env s else exs b env s
  | .for tg it b, env, s => (evit C it env s).sr env fun w s => forLoop (fun x env s => match bindTg tg x s env with
      | some env' => exs b env' s
      | none => .stk) w.live w.items env s
  | .whl c b, env, s => whlLoop (fun env s => (ev C c env s).bind fun x s => Res.of (truth s x) s) (exs b) C.fuel env s
  | .ret e, env, s => (ev C e env s).sr env fun x s => .rt x s
  | .ret0, _, s => .rt .non s
  | .brk, env, s => .bk env s
  | .cnt, env, s => .ct env s
  | .pass, env, s => .nx env s
  | .raise c es, env, s => (evs C es env s).sr env fun xs s => .exc (.exc c (if (C.fields c).isEmpty then [] else xs)) env s
  | .try1 b c i h, env, s => tryAs C.sub c i (fun env s => exs h env s) (exs b env s)
def exs : ISs → Env → Store → SR
  | .nil, env, s => .nx env s
  | .cons st ss, env, s => (ex st env s).andThen fun env s => exs ss env s
end
end

/-! ### defs -/
structure FnI where
  params : Nat
  slots : Nat
  body : ISs
/-- a text: its defs, its lambdas, its names, its errors -/
structure Tx where
  fn : Str → Option FnI
  glob : Str → Option PV
  fields : Str → List Str
  sub : Str → Str → Option Bool
  fuel : Nat

/-- handed back: what the def made for itself goes, if its answer doesn't name it -/
def handBack (n : Nat) (s : Store) (v : PV) (s' : Store) : Res PV := match freeze n s' 3 v with
  | none => .ok v s'
  | some v' => if beqSt (s'.take n) s then .ok v' s else if (s'.take n).all (SO.inb n) then .ok v' (s'.take n) else .ok v s'
def handExc (n : Nat) (s : Store) (v : PV) (s' : Store) : Res PV := match freeze n s' 3 v with
  | none => .exc v s'
  | some v' => if beqSt (s'.take n) s then .exc v' s else if (s'.take n).all (SO.inb n) then .exc v' (s'.take n) else .exc v s'

def call1 (T : Tx) (C : Calls) (f : PySem.Str) (vs : List PV) (s : Store) : Res PV := match T.fn f with
    | none => .stk
    | some d => if vs.length = d.params then
        match exs C d.body (vs ++ List.replicate (d.slots - d.params) .und) s with
        | .nx _ s' => handBack s.length s .non s'
        | .rt v s' => handBack s.length s v s'
        | .exc x _ s' => handExc s.length s x s'
        | _ => .stk
      else .stk
/-- calls, one within another at most so often -/
def callsOf (T : Tx) : Nat → Calls
  | 0 => ⟨fun _ _ _ => .stk, fun _ _ _ => .stk, T.glob, T.fields, T.sub, T.fuel⟩
  | k + 1 => ⟨call1 T (callsOf T k), (callsOf T k).fn, T.glob, T.fields, T.sub, T.fuel⟩
def callF (T : Tx) (k : Nat) : PySem.Str → List PV → Store → Res PV := (callsOf T k).fn
end MP
namespace MP
open PySem
theorem callF_succ (T : Tx) (k : Nat) (f : PySem.Str) (vs : List PV) (s : Store) : callF T (k + 1) f vs s = call1 T (callsOf T k) f vs s := rfl
end MP

/-! How the small language's values stand in the heap. -/
namespace MP
open PySem L2

/-- the attributes of errors, the tables of code objects -/
structure Fl where
  f : Str → List Str
  T : List (Addr × Str)
instance : CoeFun Fl (fun _ => Str → List Str) := ⟨Fl.f⟩
/-- what is taken for values (nobody changes it), and the addresses of the store -/
structure Gh where
  F : Hp
  μ : List Addr
  /-- what others hold just now: it stays as it is, no value names it -/
  R : Hp
structure Gh.le (g g' : Gh) : Prop where
  F : ∀ a o, g.F a = some o → g'.F a = some o
  μ : g.μ <+: g'.μ
  R : g.R = g'.R
theorem Gh.le.rfl {g : Gh} : g.le g := ⟨fun _ _ h => h, List.prefix_refl _, Eq.refl _⟩
theorem Gh.le.trans {g g1 g2 : Gh} (a : g.le g1) (b : g1.le g2) : g.le g2 := ⟨fun c o h => b.F c o (a.F c o h), a.μ.trans b.μ, a.R.trans b.R⟩
/-- values are told by these two alone -/
structure Gh.sub (g g' : Gh) : Prop where
  F : ∀ a o, g.F a = some o → g'.F a = some o
  μ : g.μ <+: g'.μ
theorem Gh.le.sub {g g' : Gh} (h : g.le g') : g.sub g' := ⟨h.F, h.μ⟩

/-- an error that is held: its object at a, of the class cls, its own dict at d -/
def ExH (cls : Value) (d : Option Addr) (a : Addr) : HO := .ext fun h => ∃ (oe : Obj) (vs : Array Value), h.get? a = some oe ∧ Zc cls d oe ∧ oe.data = .fields vs

section
variable (K : PySem.W.Frag) (mg : Str → Option Value) (flds : Fl)
mutual
inductive RV (g : Gh) : V → PV → Prop
  | non : RV g .non .non
  | bl (b : Bool) : RV g (.bl b) (.bl b)
  | int (i : Int) : RV g (.int i) (.int i)
  | str (z : Str) : RV g (.str z) (.str z)
  | tup {a : Addr} {vs : List V} {xs : List PV} : SqT K g.F a vs → RVs g vs xs → RV g (.ref a) (.tup xs)
  | lst {a : Addr} {vs : List V} {xs : List PV} : g.F a = some (.lst vs) → RVs g vs xs → RV g (.ref a) (.lst xs)
  | wl {a : Addr} {vs : List V} {xs : List PV} : SqL K g.F a vs → RVs g vs xs → RV g (.ref a) (.wl xs)
  | obj {a : Addr} {n : Nat} : g.μ[n]? = some a → RV g (.ref a) (.obj n)
  | fn {a : Addr} {x : Str} : mg x = some (.ref a) → RV g (.ref a) (.fn x)
  | ty (T : String) : RV g (.ty T) (.ty T)
  | cls {a : Addr} {x : Str} : mg x = some (.ref a) → RV g (.ref a) (.cls x)
  | exc0 {a C : Addr} {x : Str} : mg x = some (.ref C) → flds x = [] → g.F a = some (ExH (.ref C) none a) → RV g (.ref a) (.exc x [])
  | exc1 {a C d : Addr} {x : Str} {fs : List (Str × V)} {vs : List V} {xs : List PV} : mg x = some (.ref C) → flds x ≠ [] → g.F a = some (ExH (.ref C) (some d) a) → g.F d = some (.xd fs) →
      fs = (flds x).zip vs → vs.length = (flds x).length → RVs g vs xs → RV g (.ref a) (.exc x xs)
inductive RVs (g : Gh) : List V → List PV → Prop
  | nil : RVs g [] []
  | cons {v : V} {x : PV} {vs : List V} {xs : List PV} : RV g v x → RVs g vs xs → RVs g (v :: vs) (x :: xs)
end
def RKs (g : Gh) : List (Key × V) → List (Key × PV) → Prop
  | [], [] => True
  | p :: ps, q :: qs => p.1 = q.1 ∧ RV K mg flds g p.2 q.2 ∧ RKs g ps qs
  | _, _ => False
/-- an object of the store -/
def RO (g : Gh) (H : Hp) (a : Addr) : SO → Prop
  | .lst xs => ∃ vs, H a = some (.lst vs) ∧ RVs K mg flds g vs xs
  | .dct kvs => ∃ ks, H a = some (.dK ks) ∧ RKs K mg flds g ks kvs
/-- the store -/
structure RS (g : Gh) (H : Hp) (s : Store) : Prop where
  fr : ∀ a o, g.F a = some o → H a = some o
  len : g.μ.length = s.length
  nd : g.μ.Nodup
  sep : ∀ a, a ∈ g.μ → g.F a = none
  rs : ∀ a o, g.R a = some o → H a = some o
  sepF : ∀ a o, g.R a = some o → g.F a = none
  sepM : ∀ a, a ∈ g.μ → g.R a = none
  tab : LamX.Tabs flds.T H
  ntF : ∀ a ps, g.F a ≠ some (.tbl ps)
  ntR : ∀ a ps, g.R a ≠ some (.tbl ps)
  ob : ∀ (n : Nat) (a : Addr) (o : SO), g.μ[n]? = some a → s[n]? = some o → RO K mg flds g H a o
/-- the names -/
def RL (g : Gh) (σ : L2.St) (env : Env) : Prop := env.length = σ.length ∧ ∀ (i : Nat) (x : PV), env[i]? = some x → x ≠ .und → ∃ v, σ[i]? = some (some v) ∧ RV K mg flds g v x
/-- an error in the air -/
def RX (g : Gh) (cls : Value) (d : Option Addr) : PV → Prop
  | .exc x xs => ∃ C, mg x = some (.ref C) ∧ cls = .ref C ∧ ((flds x = [] ∧ d = none ∧ xs = []) ∨
      (flds x ≠ [] ∧ ∃ dd fs vs, d = some dd ∧ g.F dd = some (.xd fs) ∧ fs = (flds x).zip vs ∧ vs.length = (flds x).length ∧ RVs K mg flds g vs xs))
  | _ => False
end

section
variable {K : PySem.W.Frag} {mg : Str → Option Value} {flds : Fl} {g g' : Gh}
theorem sqt_mono {F F' : Hp} {a : Addr} {vs : List V} (h : ∀ a o, F a = some o → F' a = some o) (q : SqT K F a vs) : SqT K F' a vs := by
  rcases q with (q | ⟨o, q⟩) | q
  · exact .inl (.inl (h _ _ q))
  · exact .inl (.inr ⟨o, h _ _ q⟩)
  · exact .inr q
theorem sql_mono {F F' : Hp} {a : Addr} {vs : List V} (h : ∀ a o, F a = some o → F' a = some o) (q : SqL K F a vs) : SqL K F' a vs := by
  rcases q with (q | ⟨o, q⟩) | q
  · exact .inl (.inl (h _ _ q))
  · exact .inl (.inr ⟨o, h _ _ q⟩)
  · exact .inr q
theorem pre_get {α : Type} {l l' : List α} {n : Nat} {a : α} (h : l <+: l') (e : l[n]? = some a) : l'[n]? = some a := by
  obtain ⟨t, rfl⟩ := h
  have hn : n < l.length := (List.getElem?_eq_some_iff.mp e).1
  rw [List.getElem?_append_left hn]
  exact e
mutual
theorem RV.msub (l : g.sub g') : ∀ {v : V} {x : PV}, RV K mg flds g v x → RV K mg flds g' v x
  | _, _, .non => .non
  | _, _, .bl b => .bl b
  | _, _, .int i => .int i
  | _, _, .str z => .str z
  | _, _, .tup h r => .tup (sqt_mono l.F h) (RVs.msub l r)
  | _, _, .lst h r => .lst (l.F _ _ h) (RVs.msub l r)
  | _, _, .wl h r => .wl (sql_mono l.F h) (RVs.msub l r)
  | _, _, .obj h => .obj (pre_get l.μ h)
  | _, _, .fn h => .fn h
  | _, _, .ty T => .ty T
  | _, _, .cls h => .cls h
  | _, _, .exc0 h1 h2 h3 => .exc0 h1 h2 (l.F _ _ h3)
  | _, _, .exc1 h1 h2 h3 h4 h5 h6 r => .exc1 h1 h2 (l.F _ _ h3) (l.F _ _ h4) h5 h6 (RVs.msub l r)
theorem RVs.msub (l : g.sub g') : ∀ {vs : List V} {xs : List PV}, RVs K mg flds g vs xs → RVs K mg flds g' vs xs
  | _, _, .nil => .nil
  | _, _, .cons h r => .cons (RV.msub l h) (RVs.msub l r)
end
theorem RKs.msub (l : g.sub g') : ∀ {ks : List (Key × V)} {kvs : List (Key × PV)}, RKs K mg flds g ks kvs → RKs K mg flds g' ks kvs
  | [], [], _ => trivial
  | [], _ :: _, h => h.elim
  | _ :: _, [], h => h.elim
  | _ :: _, _ :: _, h => ⟨h.1, h.2.1.msub l, RKs.msub l h.2.2⟩
theorem RV.mono (l : g.le g') {v : V} {x : PV} (h : RV K mg flds g v x) : RV K mg flds g' v x := h.msub l.sub
theorem RVs.mono (l : g.le g') {vs : List V} {xs : List PV} (h : RVs K mg flds g vs xs) : RVs K mg flds g' vs xs := h.msub l.sub
theorem RKs.mono (l : g.le g') {ks : List (Key × V)} {kvs : List (Key × PV)} (h : RKs K mg flds g ks kvs) : RKs K mg flds g' ks kvs := h.msub l.sub
theorem RL.msub {σ : L2.St} {env : Env} (l : g.sub g') (h : RL K mg flds g σ env) : RL K mg flds g' σ env := ⟨h.1, fun i x e n => let ⟨v, a, b⟩ := h.2 i x e n; ⟨v, a, b.msub l⟩⟩
theorem RL.mono {σ : L2.St} {env : Env} (l : g.le g') (h : RL K mg flds g σ env) : RL K mg flds g' σ env := h.msub l.sub
theorem RVs.length : ∀ {vs : List V} {xs : List PV}, RVs K mg flds g vs xs → vs.length = xs.length
  | _, _, .nil => rfl
  | _, _, .cons _ r => by rw [List.length_cons, List.length_cons, r.length]
theorem RVs.get : ∀ {vs : List V} {xs : List PV} {i : Nat} {x : PV}, RVs K mg flds g vs xs → xs[i]? = some x → ∃ v, vs[i]? = some v ∧ RV K mg flds g v x
  | _, _, _, _, .nil, e => by simp at e
  | _, _, 0, _, .cons h _, e => by
    simp at e
    subst e
    exact ⟨_, rfl, h⟩
  | _, _, i + 1, _, .cons _ r, e => by
    obtain ⟨v, a, b⟩ := RVs.get (i := i) r (by simpa using e)
    exact ⟨v, by simpa using a, b⟩
theorem RVs.getV : ∀ {vs : List V} {xs : List PV} {i : Nat} {v : V}, RVs K mg flds g vs xs → vs[i]? = some v → ∃ x, xs[i]? = some x ∧ RV K mg flds g v x
  | _, _, _, _, .nil, e => by simp at e
  | _, _, 0, _, .cons h _, e => by
    simp at e
    subst e
    exact ⟨_, rfl, h⟩
  | _, _, i + 1, _, .cons _ r, e => by
    obtain ⟨v, a, b⟩ := RVs.getV (i := i) r (by simpa using e)
    exact ⟨v, by simpa using a, b⟩
theorem RVs.append : ∀ {vs ws : List V} {xs ys : List PV}, RVs K mg flds g vs xs → RVs K mg flds g ws ys → RVs K mg flds g (vs ++ ws) (xs ++ ys)
  | _, _, _, _, .nil, h => h
  | _, _, _, _, .cons a r, h => .cons a (RVs.append r h)
theorem RVs.take : ∀ {vs : List V} {xs : List PV} (n : Nat), RVs K mg flds g vs xs → RVs K mg flds g (vs.take n) (xs.take n)
  | _, _, 0, _ => .nil
  | _, _, _ + 1, .nil => .nil
  | _, _, n + 1, .cons a r => .cons a (RVs.take n r)
theorem RVs.drop : ∀ {vs : List V} {xs : List PV} (n : Nat), RVs K mg flds g vs xs → RVs K mg flds g (vs.drop n) (xs.drop n)
  | _, _, 0, h => h
  | _, _, _ + 1, .nil => .nil
  | _, _, n + 1, .cons a r => RVs.drop n r
theorem RVs.set : ∀ {vs : List V} {xs : List PV} (n : Nat) {v : V} {x : PV}, RV K mg flds g v x → RVs K mg flds g vs xs → RVs K mg flds g (vs.set n v) (xs.set n x)
  | _, _, _, _, _, _, .nil => .nil
  | _, _, 0, _, _, h, .cons _ r => .cons h r
  | _, _, n + 1, _, _, h, .cons a r => .cons a (RVs.set n h r)
theorem RVs.erase : ∀ {vs : List V} {xs : List PV} (n : Nat), RVs K mg flds g vs xs → RVs K mg flds g (vs.eraseIdx n) (xs.eraseIdx n)
  | _, _, _, .nil => .nil
  | _, _, 0, .cons _ r => r
  | _, _, n + 1, .cons a r => .cons a (RVs.erase n r)
theorem RVs.dropLast {vs : List V} {xs : List PV} (h : RVs K mg flds g vs xs) : RVs K mg flds g vs.dropLast xs.dropLast := by
  rw [List.dropLast_eq_take, List.dropLast_eq_take, h.length]
  exact h.take _
theorem RVs.reverse : ∀ {vs : List V} {xs : List PV}, RVs K mg flds g vs xs → RVs K mg flds g vs.reverse xs.reverse
  | _, _, .nil => .nil
  | _, _, .cons a r => by
    rw [List.reverse_cons, List.reverse_cons]
    exact (RVs.reverse r).append (.cons a .nil)
theorem RVs.rep {vs : List V} {xs : List PV} (h : RVs K mg flds g vs xs) : ∀ k : Nat, RVs K mg flds g (List.replicate k vs).flatten (List.replicate k xs).flatten
  | 0 => .nil
  | k + 1 => by
    rw [List.replicate_succ, List.replicate_succ, List.flatten_cons, List.flatten_cons]
    exact h.append (RVs.rep h k)
theorem RVs.isEmpty {vs : List V} {xs : List PV} (h : RVs K mg flds g vs xs) : vs.isEmpty = xs.isEmpty := by
  cases h <;> rfl

/-! ### the ends -/
/-- what is wanted behind an expression -/
def Good (K : PySem.W.Frag) (mg : Str → Option Value) (flds : Fl) {α β : Type} (rel : Gh → β → α → Prop) (g : Gh) (Q : β → Hp → Prop) (W : XK) : Res α → Prop
  | .ok z s => ∀ v H' g', g.le g' → RS K mg flds g' H' s → rel g' v z → Q v H'
  | .exc x s => ∀ cls d H' g', g.le g' → RS K mg flds g' H' s → RX K mg flds g' cls d x → W cls d H'
  | .stk => False
section
variable {α β γ δ : Type} {rel : Gh → β → α → Prop} {rel2 : Gh → δ → γ → Prop} {Q Q' : β → Hp → Prop} {Q2 : δ → Hp → Prop} {W : XK} {r : Res α}
theorem Good.mono (h : Good K mg flds rel g Q W r) (l : g.le g') : Good K mg flds rel g' Q W r := by
  cases r with
  | ok z s => exact fun v H' g2 l2 => h v H' g2 (l.trans l2)
  | exc x s => exact fun c d H' g2 l2 => h c d H' g2 (l.trans l2)
  | stk => exact h
theorem Good.imp (h : Good K mg flds rel g Q W r) (i : ∀ v H, Q v H → Q' v H) : Good K mg flds rel g Q' W r := by
  cases r with
  | ok z s => exact fun v H' g2 l2 a b => i _ _ (h v H' g2 l2 a b)
  | exc x s => exact h
  | stk => exact h
theorem Good.step {f : α → Store → Res γ} (h : Good K mg flds rel2 g Q2 W (r.bind f)) :
    Good K mg flds rel g (fun v H1 => ∃ g1 z s1, g.le g1 ∧ RS K mg flds g1 H1 s1 ∧ rel g1 v z ∧ Good K mg flds rel2 g1 Q2 W (f z s1)) W r := by
  cases r with
  | ok z s =>
    have h' : Good K mg flds rel2 g Q2 W (f z s) := h
    exact fun v H' g2 l2 a b => ⟨g2, z, s, l2, a, b, h'.mono l2⟩
  | exc x s => exact h
  | stk => exact h
theorem Good.ofOpt {o : Option α} {s : Store} (h : Good K mg flds rel g Q W (Res.of o s)) : ∃ z, o = some z ∧ ∀ v H' g', g.le g' → RS K mg flds g' H' s → rel g' v z → Q v H' := by
  cases o with
  | none => exact h.elim
  | some z => exact ⟨z, rfl, h⟩
/-- a pure look ahead of the rest -/
theorem Good.look {o : Option α} {s : Store} {f : α → Store → Res γ} (h : Good K mg flds rel2 g Q2 W ((Res.of o s).bind f)) : ∃ z, o = some z ∧ Good K mg flds rel2 g Q2 W (f z s) := by
  cases o with
  | none => exact h.elim
  | some z => exact ⟨z, rfl, h⟩
end

/-! ### the store changes -/
variable {H : Hp} {s : Store}
theorem RS.there (h : RS K mg flds g H s) {n : Nat} {a : Addr} (e : g.μ[n]? = some a) : ∃ o, s[n]? = some o ∧ RO K mg flds g H a o := by
  have hn : n < g.μ.length := (List.getElem?_eq_some_iff.mp e).1
  rw [h.len] at hn
  exact ⟨s[n], List.getElem?_eq_getElem hn, h.ob n a _ e (List.getElem?_eq_getElem hn)⟩
theorem RS.has (h : RS K mg flds g H s) {n : Nat} {o : SO} (e : s[n]? = some o) : ∃ a, g.μ[n]? = some a ∧ RO K mg flds g H a o := by
  have hn : n < s.length := (List.getElem?_eq_some_iff.mp e).1
  rw [← h.len] at hn
  exact ⟨g.μ[n], List.getElem?_eq_getElem hn, h.ob n _ o (List.getElem?_eq_getElem hn) e⟩
theorem RO.some {a : Addr} {o : SO} (h : RO K mg flds g H a o) : ∃ u, H a = some u := by
  cases o with
  | lst xs => obtain ⟨vs, e, _⟩ := h; exact ⟨_, e⟩
  | dct xs => obtain ⟨vs, e, _⟩ := h; exact ⟨_, e⟩
theorem RS.ne (h : RS K mg flds g H s) {n : Nat} {a p : Addr} (e : g.μ[n]? = some a) (hp : H p = none) : a ≠ p := fun z => by
  obtain ⟨o, _, r⟩ := h.there e
  obtain ⟨u, e2⟩ := r.some
  rw [z, hp] at e2
  cases e2
theorem RO.msub {H' : Hp} {a : Addr} {o : SO} (l : g.sub g') (e : H' a = H a) (h : RO K mg flds g H a o) : RO K mg flds g' H' a o := by
  cases o with
  | lst xs => obtain ⟨vs, e1, r⟩ := h; exact ⟨vs, e.trans e1, r.msub l⟩
  | dct xs => obtain ⟨vs, e1, r⟩ := h; exact ⟨vs, e.trans e1, r.msub l⟩
theorem RO.mono {H' : Hp} {a : Addr} {o : SO} (l : g.le g') (e : H' a = H a) (h : RO K mg flds g H a o) : RO K mg flds g' H' a o := h.msub l.sub e
theorem RS.fnone (h : RS K mg flds g H s) {p : Addr} (hp : H p = none) : g.F p = none := by
  cases e : g.F p with
  | none => rfl
  | some o =>
    rw [h.fr _ _ e] at hp
    cases hp
theorem RS.rnone (h : RS K mg flds g H s) {p : Addr} (hp : H p = none) : g.R p = none := by
  cases e : g.R p with
  | none => rfl
  | some o =>
    rw [h.rs _ _ e] at hp
    cases hp
theorem tabs_new {T : List (Addr × Str)} {H : Hp} {p : Addr} {o : HO} (t : LamX.Tabs T H) (hp : H p = none) : LamX.Tabs T (upd H p o) := t.ext fun b u e => by rw [upd_ne (ne_of_none e hp)]; exact e
theorem tabs_chg {T : List (Addr × Str)} {H : Hp} {p : Addr} {o u : HO} (t : LamX.Tabs T H) (hp : H p = some u) (n1 : ∀ ps, u ≠ .tbl ps) (n2 : ∀ c q, u ≠ LamX.CodeO c q) : LamX.Tabs T (upd H p o) := fun x hx => by
  obtain ⟨ps, h1, h2, h3⟩ := t x hx
  refine ⟨ps, ?_, h2, fun pos cv hc => ?_⟩
  · rw [upd_ne (fun z => by rw [z, hp] at h1; exact n1 _ (Option.some.inj h1))]
    exact h1
  · obtain ⟨c, e1, e2⟩ := h3 pos cv hc
    refine ⟨c, e1, ?_⟩
    rw [upd_ne (fun z => by rw [z, hp] at e2; exact n2 _ _ (Option.some.inj e2))]
    exact e2
theorem ro_plain {a : Addr} {o : SO} (h : RO K mg flds g H a o) : ∃ u, H a = some u ∧ (∀ ps, u ≠ .tbl ps) ∧ ∀ c q, u ≠ LamX.CodeO c q := by
  cases o with
  | lst xs => obtain ⟨vs, e, _⟩ := h; exact ⟨_, e, (fun _ z => by cases z), fun _ _ z => by unfold LamX.CodeO at z; cases z⟩
  | dct xs => obtain ⟨vs, e, _⟩ := h; exact ⟨_, e, (fun _ z => by cases z), fun _ _ z => by unfold LamX.CodeO at z; cases z⟩
theorem nt_upd {G : Hp} {p : Addr} {o : HO} (h : ∀ a ps, G a ≠ some (.tbl ps)) (no : ∀ ps, o ≠ .tbl ps) : ∀ a ps, upd G p o a ≠ some (.tbl ps) := fun a ps z => by
  by_cases e : a = p
  · rw [e, upd_same] at z
    exact no ps (Option.some.inj z)
  · rw [upd_ne e] at z
    exact h a ps z
/-- a new thing that nobody changes -/
theorem RS.frozen (h : RS K mg flds g H s) {p : Addr} (o : HO) (hp : H p = none) (no : ∀ ps, o ≠ .tbl ps := by (intro _ z; cases z)) : g.le ⟨upd g.F p o, g.μ, g.R⟩ ∧ RS K mg flds ⟨upd g.F p o, g.μ, g.R⟩ (upd H p o) s := by
  have hF := h.fnone hp
  have l : g.le ⟨upd g.F p o, g.μ, g.R⟩ := ⟨fun a u e => by
    have n : a ≠ p := fun z => by rw [z, hF] at e; cases e
    show upd g.F p o a = some u
    rw [upd_ne n]
    exact e, List.prefix_refl _, rfl⟩
  have nR : ∀ a u, g.R a = some u → a ≠ p := fun a u e z => by
    rw [z, h.rnone hp] at e
    cases e
  refine ⟨l, fun a u e => ?_, h.len, h.nd, fun a ha => ?_, fun a u e => ?_, fun a u e => ?_, h.sepM, tabs_new h.tab hp, nt_upd h.ntF no, h.ntR, fun n a u e1 e2 => ?_⟩
  · have e : upd g.F p o a = some u := e
    by_cases n : a = p
    · rw [n, upd_same] at e ⊢
      exact e
    · rw [upd_ne n] at e ⊢
      exact h.fr _ _ e
  · obtain ⟨n, e⟩ := List.mem_iff_getElem?.mp ha
    show upd g.F p o a = none
    rw [upd_ne (h.ne e hp)]
    exact h.sep a ha
  · rw [upd_ne (nR a u e)]
    exact h.rs _ _ e
  · show upd g.F p o a = none
    rw [upd_ne (nR a u e)]
    exact h.sepF _ _ e
  · exact RO.mono l (upd_ne (h.ne e1 hp)) (h.ob n a u e1 e2)
/-- a new thing of the store -/
theorem RS.alloc (h : RS K mg flds g H s) {p : Addr} {o : HO} {so : SO} (hp : H p = none) (ro : ∀ g', g.le g' → ∀ H', H' p = some o → RO K mg flds g' H' p so) :
    g.le ⟨g.F, g.μ ++ [p], g.R⟩ ∧ RS K mg flds ⟨g.F, g.μ ++ [p], g.R⟩ (upd H p o) (s ++ [so]) ∧ RV K mg flds ⟨g.F, g.μ ++ [p], g.R⟩ (.ref p) (.obj s.length) := by
  have l : g.le ⟨g.F, g.μ ++ [p], g.R⟩ := ⟨fun _ _ e => e, List.prefix_append _ _, rfl⟩
  have np : p ∉ g.μ := fun hm => by
    obtain ⟨n, e⟩ := List.mem_iff_getElem?.mp hm
    exact h.ne e hp rfl
  have nR : ∀ a u, g.R a = some u → a ≠ p := fun a u e z => by
    rw [z, h.rnone hp] at e
    cases e
  refine ⟨l, ⟨fun a u e => ?_, ?_, ?_, fun a ha => ?_, fun a u e => ?_, h.sepF, fun a ha => ?_, tabs_new h.tab hp, h.ntF, h.ntR, fun n a u e1 e2 => ?_⟩, .obj ?_⟩
  · have n : a ≠ p := fun z => by
      rw [z] at e
      have e : g.F p = some u := e
      rw [h.fnone hp] at e
      cases e
    rw [upd_ne n]
    exact h.fr _ _ e
  · show (g.μ ++ [p]).length = (s ++ [so]).length
    rw [List.length_append, List.length_append, h.len]
    rfl
  · show (g.μ ++ [p]).Nodup
    rw [List.nodup_append]
    refine ⟨h.nd, by simp, fun a ha b hb => ?_⟩
    rw [List.mem_singleton] at hb
    intro z
    rw [z, hb] at ha
    exact np ha
  · show g.F a = none
    have ha : a ∈ g.μ ++ [p] := ha
    rcases List.mem_append.mp ha with ha | ha
    · exact h.sep a ha
    · rw [List.mem_singleton] at ha
      rw [ha]
      exact h.fnone hp
  · rw [upd_ne (nR a u e)]
    exact h.rs _ _ e
  · show g.R a = none
    have ha : a ∈ g.μ ++ [p] := ha
    rcases List.mem_append.mp ha with ha | ha
    · exact h.sepM a ha
    · rw [List.mem_singleton] at ha
      rw [ha]
      exact h.rnone hp
  · have e1 : (g.μ ++ [p])[n]? = some a := e1
    by_cases hn : n < g.μ.length
    · rw [List.getElem?_append_left hn] at e1
      rw [List.getElem?_append_left (by rw [← h.len]; exact hn)] at e2
      exact RO.mono l (upd_ne (h.ne e1 hp)) (h.ob n a u e1 e2)
    · have e3 : n = g.μ.length := by
        have := (List.getElem?_eq_some_iff.mp e1).1
        rw [List.length_append] at this
        simp at this
        omega
      rw [e3, List.getElem?_append_right (Nat.le_refl _), Nat.sub_self] at e1
      rw [e3, h.len, List.getElem?_append_right (Nat.le_refl _), Nat.sub_self] at e2
      simp at e1 e2
      subst e1
      subst e2
      exact ro _ l _ upd_same
  · show (g.μ ++ [p])[s.length]? = some p
    rw [← h.len, List.getElem?_append_right (Nat.le_refl _), Nat.sub_self]
    rfl
/-- a thing of the store is changed -/
theorem RS.write (h : RS K mg flds g H s) {n : Nat} {a : Addr} {o : HO} {so : SO} (e : g.μ[n]? = some a) (ro : RO K mg flds g (upd H a o) a so) : RS K mg flds g (upd H a o) (s.set n so) := by
  have ha : a ∈ g.μ := List.mem_iff_getElem?.mpr ⟨n, e⟩
  obtain ⟨_, _, ro0⟩ := h.there e
  obtain ⟨u0, p1, p2, p3⟩ := ro_plain ro0
  refine ⟨fun b u eb => ?_, by rw [List.length_set]; exact h.len, h.nd, h.sep, fun b u eb => ?_, h.sepF, h.sepM, tabs_chg h.tab p1 p2 p3, h.ntF, h.ntR, fun m b u e1 e2 => ?_⟩
  · have nb : b ≠ a := fun z => by
      rw [z, h.sep a ha] at eb
      cases eb
    rw [upd_ne nb]
    exact h.fr _ _ eb
  · have nb : b ≠ a := fun z => by
      rw [z, h.sepM a ha] at eb
      cases eb
    rw [upd_ne nb]
    exact h.rs _ _ eb
  · by_cases hm : n = m
    · subst hm
      rw [e] at e1
      cases e1
      have hn : n < s.length := by
        rw [← h.len]
        exact (List.getElem?_eq_some_iff.mp e).1
      rw [List.getElem?_set_self hn] at e2
      cases e2
      exact ro
    · rw [List.getElem?_set_ne hm] at e2
      have nb : b ≠ a := fun z => hm ((List.getElem?_inj (List.getElem?_eq_some_iff.mp e).1 h.nd).mp (by rw [e, e1, z]))
      exact RO.mono Gh.le.rfl (upd_ne nb) (h.ob m b u e1 e2)
/-- a thing is taken into one's own hand -/
theorem RS.hold (h : RS K mg flds g H s) {p : Addr} (o : HO) (hp : H p = none) (no : ∀ ps, o ≠ .tbl ps := by (intro _ z; cases z)) : g.sub ⟨g.F, g.μ, upd g.R p o⟩ ∧ RS K mg flds ⟨g.F, g.μ, upd g.R p o⟩ (upd H p o) s := by
  have l : g.sub ⟨g.F, g.μ, upd g.R p o⟩ := ⟨fun _ _ e => e, List.prefix_refl _⟩
  refine ⟨l, fun a u e => ?_, h.len, h.nd, h.sep, fun a u e => ?_, fun a u e => ?_, fun a ha => ?_, tabs_new h.tab hp, h.ntF, nt_upd h.ntR no, fun n a u e1 e2 => ?_⟩
  · have n : a ≠ p := fun z => by
      rw [z] at e
      have e : g.F p = some u := e
      rw [h.fnone hp] at e
      cases e
    rw [upd_ne n]
    exact h.fr _ _ e
  · have e : upd g.R p o a = some u := e
    by_cases n : a = p
    · rw [n, upd_same] at e ⊢
      exact e
    · rw [upd_ne n] at e ⊢
      exact h.rs _ _ e
  · have e : upd g.R p o a = some u := e
    by_cases n : a = p
    · rw [n]
      exact h.fnone hp
    · rw [upd_ne n] at e
      exact h.sepF _ _ e
  · obtain ⟨n, e⟩ := List.mem_iff_getElem?.mp ha
    show upd g.R p o a = none
    rw [upd_ne (h.ne e hp)]
    exact h.sepM a ha
  · exact RO.msub l (upd_ne (h.ne e1 hp)) (h.ob n a u e1 e2)
/-- what is in one's own hand is changed -/
theorem RS.turnR (h : RS K mg flds g H s) {p : Addr} {o o' : HO} (hp : g.R p = some o) (no : ∀ ps, o' ≠ .tbl ps := by (intro _ z; cases z)) (nc : ∀ c q, o ≠ LamX.CodeO c q := by (intro _ _ z; unfold LamX.CodeO at z; cases z)) : g.sub ⟨g.F, g.μ, upd g.R p o'⟩ ∧ RS K mg flds ⟨g.F, g.μ, upd g.R p o'⟩ (upd H p o') s := by
  have l : g.sub ⟨g.F, g.μ, upd g.R p o'⟩ := ⟨fun _ _ e => e, List.prefix_refl _⟩
  have nm : ∀ a, a ∈ g.μ → a ≠ p := fun a ha z => by
    have := h.sepM a ha
    rw [z, hp] at this
    cases this
  refine ⟨l, fun a u e => ?_, h.len, h.nd, h.sep, fun a u e => ?_, fun a u e => ?_, fun a ha => ?_, tabs_chg h.tab (h.rs _ _ hp) (fun ps z => h.ntR p ps (by rw [hp, z])) nc, h.ntF, nt_upd h.ntR no, fun n a u e1 e2 => ?_⟩
  · have n : a ≠ p := fun z => by
      rw [z] at e
      have e : g.F p = some u := e
      rw [h.sepF _ _ hp] at e
      cases e
    rw [upd_ne n]
    exact h.fr _ _ e
  · have e : upd g.R p o' a = some u := e
    by_cases n : a = p
    · rw [n, upd_same] at e ⊢
      exact e
    · rw [upd_ne n] at e ⊢
      exact h.rs _ _ e
  · have e : upd g.R p o' a = some u := e
    by_cases n : a = p
    · rw [n]
      exact h.sepF _ _ hp
    · rw [upd_ne n] at e
      exact h.sepF _ _ e
  · show upd g.R p o' a = none
    rw [upd_ne (nm a ha)]
    exact h.sepM a ha
  · have ha : a ∈ g.μ := List.mem_iff_getElem?.mpr ⟨n, e1⟩
    exact RO.msub l (upd_ne (nm a ha)) (h.ob n a u e1 e2)
/-- the hand is opened: it becomes a value -/
theorem RS.letF (h : RS K mg flds g H s) {p : Addr} {o : HO} {R0 : Hp} (hR : g.R = upd R0 p o) (h0 : R0 p = none) : g.sub ⟨upd g.F p o, g.μ, R0⟩ ∧ RS K mg flds ⟨upd g.F p o, g.μ, R0⟩ H s := by
  have hp : g.R p = some o := by rw [hR, upd_same]
  have hF := h.sepF _ _ hp
  have l : g.sub ⟨upd g.F p o, g.μ, R0⟩ := ⟨fun a u e => by
    have n : a ≠ p := fun z => by rw [z, hF] at e; cases e
    show upd g.F p o a = some u
    rw [upd_ne n]
    exact e, List.prefix_refl _⟩
  have nm : ∀ a, a ∈ g.μ → a ≠ p := fun a ha z => by
    have := h.sepM a ha
    rw [z, hp] at this
    cases this
  have up : ∀ a u, R0 a = some u → a ≠ p ∧ g.R a = some u := fun a u e => by
    have n : a ≠ p := fun z => by rw [z, h0] at e; cases e
    exact ⟨n, by rw [hR, upd_ne n]; exact e⟩
  refine ⟨l, fun a u e => ?_, h.len, h.nd, fun a ha => ?_, fun a u e => h.rs _ _ (up a u e).2, fun a u e => ?_, fun a ha => ?_, h.tab, nt_upd h.ntF (fun ps z => h.ntR p ps (by rw [hp, z])), fun a ps z => ?_, fun n a u e1 e2 => RO.msub l rfl (h.ob n a u e1 e2)⟩
  · have e : upd g.F p o a = some u := e
    by_cases n : a = p
    · rw [n, upd_same] at e
      cases e
      rw [n]
      exact h.rs _ _ hp
    · rw [upd_ne n] at e
      exact h.fr _ _ e
  · show upd g.F p o a = none
    rw [upd_ne (nm a ha)]
    exact h.sep a ha
  · show upd g.F p o a = none
    rw [upd_ne (up a u e).1]
    exact h.sepF _ _ (up a u e).2
  · show R0 a = none
    have := h.sepM a ha
    rw [hR, upd_ne (nm a ha)] at this
    exact this
  · exact h.ntR a ps (up a _ z).2
/-- the hand is opened: it becomes a thing of the store -/
theorem RS.letM (h : RS K mg flds g H s) {p : Addr} {o : HO} {R0 : Hp} {so : SO} (hR : g.R = upd R0 p o) (h0 : R0 p = none) (ro : RO K mg flds g H p so) :
    g.sub ⟨g.F, g.μ ++ [p], R0⟩ ∧ RS K mg flds ⟨g.F, g.μ ++ [p], R0⟩ H (s ++ [so]) := by
  have hp : g.R p = some o := by rw [hR, upd_same]
  have l : g.sub ⟨g.F, g.μ ++ [p], R0⟩ := ⟨fun _ _ e => e, List.prefix_append _ _⟩
  have nm : ∀ a, a ∈ g.μ → a ≠ p := fun a ha z => by
    have := h.sepM a ha
    rw [z, hp] at this
    cases this
  have up : ∀ a u, R0 a = some u → a ≠ p ∧ g.R a = some u := fun a u e => by
    have n : a ≠ p := fun z => by rw [z, h0] at e; cases e
    exact ⟨n, by rw [hR, upd_ne n]; exact e⟩
  refine ⟨l, h.fr, ?_, ?_, fun a ha => ?_, fun a u e => h.rs _ _ (up a u e).2, fun a u e => h.sepF _ _ (up a u e).2, fun a ha => ?_, h.tab, h.ntF, fun a ps z => ?_, fun n a u e1 e2 => ?_⟩
  · show (g.μ ++ [p]).length = (s ++ [so]).length
    rw [List.length_append, List.length_append, h.len]
    rfl
  · show (g.μ ++ [p]).Nodup
    rw [List.nodup_append]
    refine ⟨h.nd, by simp, fun a ha b hb => ?_⟩
    rw [List.mem_singleton] at hb
    rw [hb]
    exact nm a ha
  · show g.F a = none
    rcases List.mem_append.mp (show a ∈ g.μ ++ [p] from ha) with ha | ha
    · exact h.sep a ha
    · rw [List.mem_singleton] at ha
      rw [ha]
      exact h.sepF _ _ hp
  · show R0 a = none
    rcases List.mem_append.mp (show a ∈ g.μ ++ [p] from ha) with ha | ha
    · have := h.sepM a ha
      rw [hR, upd_ne (nm a ha)] at this
      exact this
    · rw [List.mem_singleton] at ha
      rw [ha]
      exact h0
  · exact h.ntR a ps (up a _ z).2
  · have e1 : (g.μ ++ [p])[n]? = some a := e1
    by_cases hn : n < g.μ.length
    · rw [List.getElem?_append_left hn] at e1
      rw [List.getElem?_append_left (by rw [← h.len]; exact hn)] at e2
      exact RO.msub l rfl (h.ob n a u e1 e2)
    · have e3 : n = g.μ.length := by
        have := (List.getElem?_eq_some_iff.mp e1).1
        rw [List.length_append] at this
        simp at this
        omega
      rw [e3, List.getElem?_append_right (Nat.le_refl _), Nat.sub_self] at e1
      rw [e3, h.len, List.getElem?_append_right (Nat.le_refl _), Nat.sub_self] at e2
      simp at e1 e2
      subst e1
      subst e2
      exact RO.msub l rfl ro
end
end MP

/-! What operators do, by the small language's values. -/
namespace MP
open PySem L2
section
variable {K : PySem.W.Frag} {mg : Str → Option Value} {flds : Fl} {g g' : Gh} {H : Hp} {s : Store} {bx : Bool} {Q : VK} {W : XK} {v : V} {x z : PV} {vs : List V} {xs : List PV}
theorem mkV (h : Good K mg flds (RV K mg flds) g Q W (mkO bx (some z) s)) (nz : ∀ xs, z ≠ .lst xs) : ∀ v H' g', g.le g' → RS K mg flds g' H' s → RV K mg flds g' v z → Q v H' := by
  cases bx with
  | false => exact h
  | true =>
    unfold mkO mkL at h
    cases z <;> first | exact h.elim | exact absurd rfl (nz _)
theorem mkNew (hs : RS K mg flds g H s) (r : RVs K mg flds g vs xs) (h : Good K mg flds (RV K mg flds) g Q W (mkL bx (.lst xs) s)) : ∀ p, H p = none → Q (.ref p) (upd H p (.lst vs)) := by
  intro p hp
  cases bx with
  | false =>
    obtain ⟨l, hs'⟩ := hs.frozen (.lst vs) hp
    exact h (.ref p) _ _ l hs' (.lst (by show upd g.F p (.lst vs) p = _; exact upd_same) (r.mono l))
  | true =>
    obtain ⟨l, hs', rv⟩ := hs.alloc (so := .lst xs) hp (fun g' l H' e => ⟨vs, e, r.mono l⟩)
    exact h (.ref p) _ _ l hs' rv
theorem mkTup (hs : RS K mg flds g H s) (r : RVs K mg flds g vs xs) (h : ∀ v H' g', g.le g' → RS K mg flds g' H' s → RV K mg flds g' v (.tup xs) → Q v H') : ∀ p, H p = none → Q (.ref p) (upd H p (.tup vs)) := by
  intro p hp
  obtain ⟨l, hs'⟩ := hs.frozen (.tup vs) hp
  exact h (.ref p) _ _ l hs' (.tup (.inl (.inl (by show upd g.F p (.tup vs) p = _; exact upd_same))) (r.mono l))
theorem sqt_heap (hs : RS K mg flds g H s) {a : Addr} (q : SqT K g.F a vs) : SqT K H a vs := sqt_mono hs.fr q
theorem sql_heap (hs : RS K mg flds g H s) {a : Addr} (q : SqL K g.F a vs) : SqL K H a vs := sql_mono hs.fr q
theorem asLst_ok (hs : RS K mg flds g H s) (hx : RV K mg flds g v x) (e : asLst s x = some xs) : ∃ a vs, v = .ref a ∧ H a = some (.lst vs) ∧ RVs K mg flds g vs xs := by
  cases hx <;> simp only [asLst] at e <;> first | cases e; done | skip
  · cases e
    rename_i h r
    exact ⟨_, _, rfl, hs.fr _ _ h, r⟩
  · rename_i a n h
    obtain ⟨o, e1, ro⟩ := hs.there h
    rw [e1] at e
    cases o with
    | lst ys =>
      cases e
      obtain ⟨vs, e2, r⟩ := ro
      exact ⟨a, vs, rfl, e2, r⟩
    | dct _ => cases e
theorem asSeq_ok (hs : RS K mg flds g H s) (hx : RV K mg flds g v x) (e : asSeq s x = some xs) : ∃ a vs, v = .ref a ∧ (SqL K H a vs ∨ SqT K H a vs) ∧ RVs K mg flds g vs xs := by
  cases hx <;> simp only [asSeq] at e <;> first | cases e; done | skip
  · cases e
    rename_i h r
    exact ⟨_, _, rfl, .inr (sqt_heap hs h), r⟩
  · cases e
    rename_i h r
    exact ⟨_, _, rfl, .inl (.inl (.inl (hs.fr _ _ h))), r⟩
  · cases e
    rename_i h r
    exact ⟨_, _, rfl, .inl (sql_heap hs h), r⟩
  · rename_i a n h
    obtain ⟨o, e1, ro⟩ := hs.there h
    rw [e1] at e
    cases o with
    | lst ys =>
      cases e
      obtain ⟨vs, e2, r⟩ := ro
      exact ⟨a, vs, rfl, .inl (.inl (.inl e2)), r⟩
    | dct _ => cases e
/-- one that is no tuple is a list -/
theorem asSeq_list (hs : RS K mg flds g H s) (hx : RV K mg flds g v x) (e : asSeq s x = some xs) (nt : ∀ ys, x ≠ .tup ys) : ∃ a vs, v = .ref a ∧ SqL K H a vs ∧ RVs K mg flds g vs xs := by
  cases hx <;> simp only [asSeq] at e <;> first | cases e; done | skip
  · exact absurd rfl (nt _)
  · cases e
    rename_i h r
    exact ⟨_, _, rfl, .inl (.inl (hs.fr _ _ h)), r⟩
  · cases e
    rename_i h r
    exact ⟨_, _, rfl, sql_heap hs h, r⟩
  · rename_i a n h
    obtain ⟨o, e1, ro⟩ := hs.there h
    rw [e1] at e
    cases o with
    | lst ys =>
      cases e
      obtain ⟨vs, e2, r⟩ := ro
      exact ⟨a, vs, rfl, .inl (.inl e2), r⟩
    | dct _ => cases e
end

/-! ### binary operators -/
def bopOf : BOp → Operator
  | .add => .Add
  | .sub => .Sub
  | .mul => .Mult
  | .fdiv => .FloorDiv
  | .mod => .Mod
  | .pow => .Pow
def rBin (K : PySem.W.Frag) (mg : Str → Option Value) (flds : Fl) (op : BOp) : R2 := fun x y H Q => ∃ (g : Gh) (s : Store) (px py : PV) (bx : Bool) (W : XK),
  RS K mg flds g H s ∧ RV K mg flds g x px ∧ RV K mg flds g y py ∧ Good K mg flds (RV K mg flds) g Q W (mkO bx (binSem op s px py) s)
theorem mulOk {a : Str} {k : Int} (h : -(2 ^ 62) ≤ k ∧ k < 2 ^ 62 ∧ a.length * k.toNat ≤ line) : MulOk a k := by
  obtain ⟨h1, h2, h3⟩ := h
  refine ⟨?_, fun q _ => ?_, fun _ _ => ?_⟩
  · rw [decide_eq_false (by omega), decide_eq_false (by omega)]
    rfl
  · have e : ((k.toNat : Nat) : Int) = k := Int.toNat_of_nonneg (by omega)
    have h4 : (a.length : Int) * k ≤ 2 ^ 63 - 1 := by
      have : ((a.length * k.toNat : Nat) : Int) ≤ ((16777216 : Nat) : Int) := Int.ofNat_le.mpr h3
      rw [Int.natCast_mul, e] at this
      omega
    have := (Int.le_ediv_iff_mul_le (by omega : 0 < k)).mpr h4
    omega
  · show decide (a.length * k.toNat > sizeLine) = false
    exact decide_eq_false (Nat.not_lt.mpr h3)
theorem op_mulS {X : Cx} : OpR X (binaryOp .Mult) (fun x y H Q => ∃ i j, x = V.str i ∧ y = V.int j ∧ MulOk i j ∧ Q (V.str (Txt.mul i j)) H) := by
  intro pins s σ H x y v u Q I rx ry h
  obtain ⟨i, j, rfl, rfl, hz, q⟩ := h
  obtain ⟨t, rfl⟩ := rx
  obtain ⟨t', rfl⟩ := ry
  exact SB.mul hz (fun t' k => ⟨.str (Txt.mul i j), H, I.tok _, ⟨_, rfl⟩, q⟩)
theorem op_bin {X : Cx} {flds : Fl} (op : BOp) : OpR X (binaryOp (bopOf op)) (rBin X.K X.mg flds op) := by
  intro pins s₀ σ H x y v u Q I rx ry hh
  obtain ⟨g, s, px, py, bx, W, hs, hx, hy, h⟩ := hh
  unfold binSem at h
  split at h
  · cases hx; cases hy
    exact op_add pins s₀ σ H _ _ v u Q I rx ry ⟨_, _, rfl, rfl, mkV h (by intro xs e; cases e) _ _ _ Gh.le.rfl hs (.int _)⟩
  · cases hx; cases hy
    exact op_sub pins s₀ σ H _ _ v u Q I rx ry ⟨_, _, rfl, rfl, mkV h (by intro xs e; cases e) _ _ _ Gh.le.rfl hs (.int _)⟩
  · cases hx; cases hy
    split at h
    · rename_i hb
      exact op_mulW pins s₀ σ H _ _ v u Q I rx ry ⟨_, _, rfl, rfl, Nat.lt_of_lt_of_le hb (by decide), mkV h (by intro xs e; cases e) _ _ _ Gh.le.rfl hs (.int _)⟩
    · exact h.elim
  · cases hx; cases hy
    split at h
    · rename_i hb
      exact op_fdivW pins s₀ σ H _ _ v u Q I rx ry ⟨_, _, rfl, rfl, hb, mkV h (by intro xs e; cases e) _ _ _ Gh.le.rfl hs (.int _)⟩
    · exact h.elim
  · cases hx; cases hy
    split at h
    · rename_i hb
      exact op_mod pins s₀ σ H _ _ v u Q I rx ry ⟨_, _, rfl, rfl, hb, mkV h (by intro xs e; cases e) _ _ _ Gh.le.rfl hs (.int _)⟩
    · exact h.elim
  · cases hx; cases hy
    split at h
    · rename_i hb
      exact op_pow pins s₀ σ H _ _ v u Q I rx ry ⟨_, _, rfl, rfl, hb, mkV h (by intro xs e; cases e) _ _ _ Gh.le.rfl hs (.int _)⟩
    · exact h.elim
  · cases hx; cases hy
    split at h
    · rename_i hb
      exact op_add_str pins s₀ σ H _ _ v u Q I rx ry ⟨_, _, rfl, rfl, hb, mkV h (by intro xs e; cases e) _ _ _ Gh.le.rfl hs (.str _)⟩
    · exact h.elim
  · cases hx with
    | tup h1 r1 =>
    cases hy with
    | tup h2 r2 =>
    split at h
    · rename_i hb
      have hv := mkV h (by intro xs e; cases e)
      refine op_catA pins s₀ σ H _ _ v u Q I rx ry ⟨_, _, _, _, rfl, rfl, sqt_heap hs h1, sqt_heap hs h2, by rw [r1.length, r2.length]; exact hb, fun e => ?_, fun e e2 => ?_, fun _ _ => ?_⟩
      · subst e
        cases r1
        exact hv _ _ _ Gh.le.rfl hs (.tup h2 r2)
      · subst e2
        cases r2
        exact hv _ _ _ Gh.le.rfl hs (by rw [List.append_nil]; exact .tup h1 r1)
      · exact mkTup hs (r1.append r2) hv
    · exact h.elim
  · split at h
    · rename_i e1 e2
      split at h
      · rename_i hb
        obtain ⟨a, vs, rfl, q1, r1⟩ := asLst_ok hs hx e1
        obtain ⟨b, ws, rfl, q2, r2⟩ := asLst_ok hs hy e2
        exact op_cat pins s₀ σ H _ _ v u Q I rx ry ⟨_, _, _, _, rfl, rfl, q1, q2, by rw [r1.length, r2.length]; exact hb, mkNew hs (r1.append r2) h⟩
      · exact h.elim
    · exact h.elim
  · cases hx; cases hy
    split at h
    · rename_i hb
      exact op_mulS pins s₀ σ H _ _ v u Q I rx ry ⟨_, _, rfl, rfl, mulOk hb, mkV h (by intro xs e; cases e) _ _ _ Gh.le.rfl hs (.str _)⟩
    · exact h.elim
  · cases hy
    split at h
    · rename_i e1
      split at h
      · rename_i hb
        obtain ⟨a, vs, rfl, q1, r1⟩ := asLst_ok hs hx e1
        exact op_rep pins s₀ σ H _ _ v u Q I rx ry ⟨_, _, _, rfl, rfl, q1, hb.1, hb.2.1, by rw [r1.length]; exact hb.2.2, mkNew hs (r1.rep _) h⟩
      · exact h.elim
    · exact h.elim
  · exact h.elim
end MP

/-! Comparisons, truth, places. -/
namespace MP
open PySem L2
section
variable {K : PySem.W.Frag} {mg : Str → Option Value} {flds : Fl} {g g' : Gh} {H : Hp} {s : Store}
mutual
theorem dat_ok (hs : RS K mg flds g H s) : ∀ {v : V} {x : PV} {d : PyData}, RV K mg flds g v x → dat s x = some d → Dp K H v d
  | _, _, _, .non, e => by
    simp only [dat] at e
    cases e
    exact .non
  | _, _, _, .bl b, e => by
    simp only [dat] at e
    cases e
    exact .bl b
  | _, _, _, .int i, e => by
    simp only [dat] at e
    cases e
    exact .int i
  | _, _, _, .str z, e => by
    simp only [dat] at e
    cases e
    exact .str z
  | _, _, _, .tup h r, e => by
    simp only [dat] at e
    obtain ⟨ds, e1, e2⟩ := Option.map_eq_some_iff.mp e
    subst e2
    exact .tup (sqt_heap hs h) (dats_ok hs r e1)
  | _, _, _, .lst h r, e => by
    simp only [dat] at e
    obtain ⟨ds, e1, e2⟩ := Option.map_eq_some_iff.mp e
    subst e2
    exact .lst (.inl (.inl (hs.fr _ _ h))) (dats_ok hs r e1)
  | _, _, _, .wl h r, e => by
    simp only [dat] at e
    obtain ⟨ds, e1, e2⟩ := Option.map_eq_some_iff.mp e
    subst e2
    exact .lst (sql_heap hs h) (dats_ok hs r e1)
  | _, _, _, .obj _, e => by simp [dat] at e
  | _, _, _, .fn _, e => by simp [dat] at e
  | _, _, _, .ty _, e => by simp [dat] at e
  | _, _, _, .cls _, e => by simp [dat] at e
  | _, _, _, .exc0 _ _ _, e => by simp [dat] at e
  | _, _, _, .exc1 _ _ _ _ _ _ _, e => by simp [dat] at e
theorem dats_ok (hs : RS K mg flds g H s) : ∀ {vs : List V} {xs : List PV} {ds : List PyData}, RVs K mg flds g vs xs → dats s xs = some ds → DpAll K H vs ds
  | _, _, _, .nil, e => by
    simp only [dats] at e
    cases e
    exact .nil
  | _, _, _, .cons h r, e => by
    simp only [dats] at e
    split at e
    · rename_i e1 e2
      cases e
      exact .cons (dat_ok hs h e1) (dats_ok hs r e2)
    · cases e
end
theorem datO_ok (hs : RS K mg flds g H s) {v : V} {x : PV} {d : PyData} (h : RV K mg flds g v x) (e : datO s x = some d) : Dp K H v d := by
  unfold datO at e
  split at e
  · cases h with
    | obj h =>
      obtain ⟨o, e1, ro⟩ := hs.there h
      rw [e1] at e
      cases o with
      | lst xs =>
        obtain ⟨ds, e2, e3⟩ := Option.map_eq_some_iff.mp e
        subst e3
        obtain ⟨vs, e4, r⟩ := ro
        exact .lst (.inl (.inl e4)) (dats_ok hs r e2)
      | dct _ => cases e
  · exact dat_ok hs h e
theorem rks_val {k : Key} : ∀ {ks : List (Key × V)} {kvs : List (Key × PV)}, RKs K mg flds g ks kvs → (∀ x, dgetK kvs k = some x → ∃ v, valV ks k = some v ∧ RV K mg flds g v x) ∧ (valV ks k).isSome = (kvs.any fun p => decide (p.1 = k))
  | [], [], _ => ⟨fun x e => (by cases e), rfl⟩
  | [], _ :: _, h => h.elim
  | _ :: _, [], h => h.elim
  | (k1, v) :: ps, (k2, x) :: qs, h => by
    obtain ⟨e, r, t⟩ := h
    have e : k1 = k2 := e
    subst e
    obtain ⟨ih1, ih2⟩ := rks_val (k := k) t
    by_cases hk : k1 = k
    · refine ⟨fun y e => ?_, ?_⟩
      · have e : dgetK ((k1, x) :: qs) k = some y := e
        unfold dgetK at e
        rw [List.find?_cons_of_pos (by simpa using hk)] at e
        cases e
        exact ⟨v, valV_pos hk, r⟩
      · rw [valV_pos hk, List.any_cons]
        simp [hk]
    · refine ⟨fun y e => ?_, ?_⟩
      · have e : dgetK ((k1, x) :: qs) k = some y := e
        unfold dgetK at e
        rw [List.find?_cons_of_neg (by simpa using hk)] at e
        obtain ⟨v', a, b⟩ := ih1 y e
        exact ⟨v', by rw [valV_neg hk]; exact a, b⟩
      · rw [valV_neg hk, List.any_cons, ih2]
        simp [hk]
theorem rks_len : ∀ {ks : List (Key × V)} {kvs : List (Key × PV)}, RKs K mg flds g ks kvs → ks.length = kvs.length
  | [], [], _ => rfl
  | [], _ :: _, h => h.elim
  | _ :: _, [], h => h.elim
  | _ :: _, _ :: _, h => by rw [List.length_cons, List.length_cons, rks_len h.2.2]
theorem isNon {v : V} {x : PV} (h : RV K mg flds g v x) : decide (v = .non) = (match x with | .non => true | _ => false) := by
  cases h <;> simp
end

/-! ### comparisons -/
def copOf : COp → CmpOp
  | .eq => .Eq
  | .ne => .NotEq
  | .lt => .Lt
  | .le => .LtE
  | .gt => .Gt
  | .ge => .GtE
  | .inn => .In
  | .nin => .NotIn
  | .is => .Is
  | .isn => .IsNot
def rCmp (K : PySem.W.Frag) (mg : Str → Option Value) (flds : Fl) (op : COp) : R2 := fun x y H Q => ∃ (g : Gh) (s : Store) (px py : PV) (b : Bool),
  RS K mg flds g H s ∧ RV K mg flds g x px ∧ RV K mg flds g y py ∧ cmpSem op s px py = some b ∧ Q (.bl b) H
section
variable {X : Cx} {flds : Fl}
theorem ord_str {op : CmpOp} {f : Str → Str → Bool} (rule : ∀ (a b : Str) (t u : Tok) (Q : Value → Shared → Prop) (s : Shared), Q (.bool (f a b)) s → wpAny (model X.prog X.w) X.A (compareOp op (.str a t) (.str b u)) Q X.xe s) :
    OpR X (compareOp op) (fun x y H Q => ∃ i j, x = .str i ∧ y = .str j ∧ Q (.bl (f i j)) H) := by
  intro pins s σ H x y v u Q I rx ry h
  obtain ⟨i, j, rfl, rfl, q⟩ := h
  obtain ⟨t, rfl⟩ := rx
  obtain ⟨t', rfl⟩ := ry
  exact rule i j t t' _ s (fin_bl I q rfl)
def rInT (K : PySem.W.Frag) (neg : Bool) : R2 := fun x y H Q => ∃ d ds, Dp K H x d ∧ Dp K H y (.tuple ds) ∧ SeqAt.shaped d = true ∧ SeqAt.shaped (.list ds) = true ∧ Q (.bl (if neg then !ds.any fun z => PyData.eqv z d else ds.any fun z => PyData.eqv z d)) H
theorem op_inT (hu : X.A.units + 65 < cLine) : OpR X (compareOp .In) (rInT X.K false) := by
  intro pins s σ H x y v u Q I rx ry h
  obtain ⟨d, ds, hd, he, sd, se, q⟩ := h
  obtain ⟨as, r1⟩ := Dp.reads I d x v hd rx
  obtain ⟨bs, r2⟩ := Dp.reads I (.tuple ds) y u he ry
  exact SeqAt.in_tuple_reads r2 r1 (SeqAt.canLay_of_shaped se) (SeqAt.canLay_of_shaped sd) (PyProof.Rows.room_in_shaped sd hu) ⟨.bl _, H, I, rfl, q⟩
theorem op_ninT (hu : X.A.units + 65 < cLine) : OpR X (compareOp .NotIn) (rInT X.K true) := by
  intro pins s σ H x y v u Q I rx ry h
  obtain ⟨d, ds, hd, he, sd, se, q⟩ := h
  obtain ⟨as, r1⟩ := Dp.reads I d x v hd rx
  obtain ⟨bs, r2⟩ := Dp.reads I (.tuple ds) y u he ry
  exact SeqAt.notIn_tuple_reads r2 r1 (SeqAt.canLay_of_shaped se) (SeqAt.canLay_of_shaped sd) (PyProof.Rows.room_in_shaped sd hu) ⟨.bl _, H, I, rfl, q⟩
theorem op_eqB (hu : X.A.units + 64 < cLine) : OpR X (compareOp .Eq) (fun x y H Q => ∃ (g : Gh) (s : Store) (px py : PV) (b : Bool),
    RS X.K X.mg flds g H s ∧ RV X.K X.mg flds g x px ∧ RV X.K X.mg flds g y py ∧ eqv s px py = some b ∧ Q (.bl b) H) := by
  intro pins s₀ σ H x y v u Q I rx ry hh
  obtain ⟨g, s, px, py, b, hs, hx, hy, e, q⟩ := hh
  unfold eqv at e
  split at e
  · cases e; cases hx; cases hy
    exact op_eq pins s₀ σ H _ _ v u Q I rx ry ⟨rfl, by simpa [V.str.injEq] using q⟩
  · cases e; cases hx; cases hy
    exact op_eq pins s₀ σ H _ _ v u Q I rx ry ⟨rfl, by simpa [V.int.injEq] using q⟩
  · unfold eqvD at e
    split at e
    · rename_i d e1 h1 h2
      split at e
      · rename_i hb
        rw [Bool.and_eq_true] at hb
        cases e
        exact op_eqD hu pins s₀ σ H _ _ v u Q I rx ry ⟨_, _, datO_ok hs hx h1, datO_ok hs hy h2, hb.1, hb.2, q⟩
      · cases e
    · cases e
theorem op_neB (hu : X.A.units + 64 < cLine) : OpR X (compareOp .NotEq) (fun x y H Q => ∃ (g : Gh) (s : Store) (px py : PV) (b : Bool),
    RS X.K X.mg flds g H s ∧ RV X.K X.mg flds g x px ∧ RV X.K X.mg flds g y py ∧ eqv s px py = some b ∧ Q (.bl (!b)) H) := by
  intro pins s₀ σ H x y v u Q I rx ry hh
  obtain ⟨g, s, px, py, b, hs, hx, hy, e, q⟩ := hh
  unfold eqv at e
  split at e
  · cases e; cases hx; cases hy
    exact op_ne pins s₀ σ H _ _ v u Q I rx ry ⟨rfl, by simpa [V.str.injEq] using q⟩
  · cases e; cases hx; cases hy
    exact op_ne pins s₀ σ H _ _ v u Q I rx ry ⟨rfl, by simpa [V.int.injEq] using q⟩
  · unfold eqvD at e
    split at e
    · rename_i d e1 h1 h2
      split at e
      · rename_i hb
        rw [Bool.and_eq_true] at hb
        cases e
        exact op_neD hu pins s₀ σ H _ _ v u Q I rx ry ⟨_, _, datO_ok hs hx h1, datO_ok hs hy h2, hb.1, hb.2, q⟩
      · cases e
    · cases e
/-- the ways of «in» -/
theorem in_ways {K : PySem.W.Frag} {mg : Str → Option Value} {g : Gh} {H : Hp} {s : Store} {x y : V} {px py : PV} {b : Bool} (hs : RS K mg flds g H s) (hx : RV K mg flds g x px) (hy : RV K mg flds g y py) (e : inSem s px py = some b) :
    (∃ i j, x = .str i ∧ y = .str j ∧ b = !(Builtin.Str.occurrences j i 0 j.length 1).isEmpty) ∨
    (∃ d ds, Dp K H x d ∧ (Dp K H y (.list ds) ∨ Dp K H y (.tuple ds)) ∧ SeqAt.shaped d = true ∧ SeqAt.shaped (.list ds) = true ∧ b = ds.any fun z => PyData.eqv z d) ∨
    (∃ (a : Addr) (o : Option V), y = .ref a ∧ DGet H a x o ∧ b = o.isSome) := by
  unfold inSem at e
  split at e
  · cases e; cases hx; cases hy
    exact .inl ⟨_, _, rfl, rfl, rfl⟩
  · cases hy with
    | obj h =>
      obtain ⟨o, e1, ro⟩ := hs.there h
      rw [e1] at e
      cases o with
      | dct kvs =>
        obtain ⟨ks, e2, r⟩ := ro
        dsimp only at e
        split at e
        · cases e; cases hx
          exact .inr (.inr ⟨_, _, rfl, DGet.k (k := .inl _) e2, ((rks_val r).2).symm⟩)
        · cases e; cases hx
          exact .inr (.inr ⟨_, _, rfl, DGet.k (k := .inr _) e2, ((rks_val r).2).symm⟩)
        · cases e
      | lst xs =>
        obtain ⟨vs, e2, r⟩ := ro
        dsimp only at e
        split at e
        · rename_i h1 h2
          split at e
          · rename_i hb
            rw [Bool.and_eq_true] at hb
            cases e
            exact .inr (.inl ⟨_, _, dat_ok hs hx h1, .inl (.lst (.inl (.inl e2)) (dats_ok hs r h2)), hb.1, hb.2, rfl⟩)
          · cases e
        · cases e
  · split at e
    · rename_i xs he
      split at e
      · rename_i h1 h2
        split at e
        · rename_i hb
          rw [Bool.and_eq_true] at hb
          cases e
          obtain ⟨a, vs, rfl, q, r⟩ := asSeq_ok hs hy he
          refine .inr (.inl ⟨_, _, dat_ok hs hx h1, ?_, hb.1, hb.2, rfl⟩)
          rcases q with q | q
          · exact .inl (.lst q (dats_ok hs r h2))
          · exact .inr (.tup q (dats_ok hs r h2))
        · cases e
      · cases e
    · cases e
theorem op_cmp (op : COp) (hu : X.A.units + 65 < cLine) : OpR X (compareOp (copOf op)) (rCmp X.K X.mg flds op) := by
  intro pins s₀ σ H x y v u Q I rx ry hh
  obtain ⟨g, s, px, py, b, hs, hx, hy, e, q⟩ := hh
  have hu1 : X.A.units + 64 < cLine := by omega
  unfold cmpSem at e
  split at e
  · cases hy
    refine op_isN pins s₀ σ H _ _ v u Q I rx ry ⟨rfl, ?_⟩
    rw [isNon hx]
    split at e
    · cases e
    · cases e; exact q
    · cases e
      split
      · rename_i h1 h2; exact (h2 rfl).elim
      · exact q
  · cases hy
    refine op_notN pins s₀ σ H _ _ v u Q I rx ry ⟨rfl, ?_⟩
    rw [isNon hx]
    split at e
    · cases e
    · cases e; exact q
    · cases e
      split
      · rename_i h1 h2; exact (h2 rfl).elim
      · exact q
  · cases e; cases hx; cases hy
    exact op_is_bl pins s₀ σ H _ _ v u Q I rx ry ⟨_, _, rfl, rfl, q⟩
  · cases e; cases hx; cases hy
    exact op_isnot_bl pins s₀ σ H _ _ v u Q I rx ry ⟨_, _, rfl, rfl, q⟩
  · cases e; cases hx; cases hy
    exact op_lt pins s₀ σ H _ _ v u Q I rx ry ⟨_, _, rfl, rfl, q⟩
  · cases e; cases hx; cases hy
    exact op_le pins s₀ σ H _ _ v u Q I rx ry ⟨_, _, rfl, rfl, q⟩
  · cases e; cases hx; cases hy
    exact op_gt pins s₀ σ H _ _ v u Q I rx ry ⟨_, _, rfl, rfl, q⟩
  · cases e; cases hx; cases hy
    exact op_ge pins s₀ σ H _ _ v u Q I rx ry ⟨_, _, rfl, rfl, q⟩
  · cases e; cases hx; cases hy
    exact op_lt_str pins s₀ σ H _ _ v u Q I rx ry ⟨_, _, rfl, rfl, q⟩
  · cases e; cases hx; cases hy
    exact ord_str (fun _ _ _ _ _ _ h => PySem.P.le_str h) pins s₀ σ H _ _ v u Q I rx ry ⟨_, _, rfl, rfl, q⟩
  · cases e; cases hx; cases hy
    exact ord_str (fun _ _ _ _ _ _ h => PySem.P.gt_str h) pins s₀ σ H _ _ v u Q I rx ry ⟨_, _, rfl, rfl, q⟩
  · cases e; cases hx; cases hy
    exact ord_str (fun _ _ _ _ _ _ h => PySem.P.ge_str h) pins s₀ σ H _ _ v u Q I rx ry ⟨_, _, rfl, rfl, q⟩
  · exact op_eqB (flds := flds) hu1 pins s₀ σ H _ _ v u Q I rx ry ⟨g, s, px, py, b, hs, hx, hy, e, q⟩
  · obtain ⟨c, e1, e2⟩ := Option.map_eq_some_iff.mp e
    subst e2
    exact op_neB (flds := flds) hu1 pins s₀ σ H _ _ v u Q I rx ry ⟨g, s, px, py, c, hs, hx, hy, e1, q⟩
  · rcases in_ways hs hx hy e with ⟨i, j, rfl, rfl, rfl⟩ | ⟨d, ds, h1, h2, h3, h4, rfl⟩ | ⟨a, o, rfl, h1, rfl⟩
    · exact op_in_str pins s₀ σ H _ _ v u Q I rx ry ⟨_, _, rfl, rfl, q⟩
    · rcases h2 with h2 | h2
      · exact op_inD hu pins s₀ σ H _ _ v u Q I rx ry ⟨_, _, h1, h2, h3, h4, q⟩
      · exact op_inT hu pins s₀ σ H _ _ v u Q I rx ry ⟨_, _, h1, h2, h3, h4, q⟩
    · cases ry
      exact d_in (by omega) I h1 rx fun s' I' => ⟨.bl _, H, I', rfl, q⟩
  · obtain ⟨c, e1, e2⟩ := Option.map_eq_some_iff.mp e
    subst e2
    rcases in_ways hs hx hy e1 with ⟨i, j, rfl, rfl, rfl⟩ | ⟨d, ds, h1, h2, h3, h4, rfl⟩ | ⟨a, o, rfl, h1, rfl⟩
    · exact op_notin_str pins s₀ σ H _ _ v u Q I rx ry ⟨_, _, rfl, rfl, q⟩
    · rcases h2 with h2 | h2
      · exact op_notInD hu pins s₀ σ H _ _ v u Q I rx ry ⟨_, _, h1, h2, h3, h4, q⟩
      · exact op_ninT hu pins s₀ σ H _ _ v u Q I rx ry ⟨_, _, h1, h2, h3, h4, q⟩
    · cases ry
      exact d_notIn (by omega) I h1 rx fun s' I' => ⟨.bl _, H, I', rfl, q⟩
  · cases e
end
end MP

/-! Truth, places, slices. -/
namespace MP
open PySem PySem.Spec PyProof.Rows L2
section
variable {K : PySem.W.Frag} {mg : Str → Option Value} {flds : Fl} {g g' : Gh} {H : Hp} {s : Store}
theorem truth_ok (hs : RS K mg flds g H s) {v : V} {x : PV} {b : Bool} (h : RV K mg flds g v x) (e : truth s x = some b) : TruV K v H b := by
  cases h <;> simp only [truth] at e
  · cases e; rfl
  · cases e; rfl
  · cases e; rfl
  · split at e
    · rename_i hz
      cases e
      refine ⟨hz, ?_⟩
      rename_i z
      cases hl : z.length with
      | zero => rfl
      | succ m => simp; omega
    · cases e
  · cases e
    rename_i h r
    exact .inr (.inl ⟨_, sqt_heap hs h, by rw [r.isEmpty]⟩)
  · cases e
    rename_i h r
    exact .inl ⟨_, .inl (.inl (hs.fr _ _ h)), by rw [r.isEmpty]⟩
  · cases e
    rename_i h r
    exact .inl ⟨_, sql_heap hs h, by rw [r.isEmpty]⟩
  · rename_i a n h
    obtain ⟨o, e1, ro⟩ := hs.there h
    rw [e1] at e
    cases o with
    | lst xs =>
      cases e
      obtain ⟨vs, e2, r⟩ := ro
      exact .inl ⟨_, .inl (.inl e2), by rw [r.isEmpty]⟩
    | dct kvs =>
      cases e
      obtain ⟨ks, e2, r⟩ := ro
      refine .inr (.inr ⟨_, e2, ?_⟩)
      have hl := rks_len r
      cases ks <;> cases kvs <;> simp at hl ⊢
  all_goals cases e
theorem ixN_len {α β : Type} {xs : List α} {ys : List β} (h : xs.length = ys.length) (i : Int) : ixN xs.length i = ixN ys.length i := by rw [h]
theorem atI_rel {vs : List V} {xs : List PV} {i : Int} {x : PV} (r : RVs K mg flds g vs xs) (e : atI xs i = some x) : ∃ v, atI vs i = some v ∧ RV K mg flds g v x := by
  unfold atI at e ⊢
  rw [r.length]
  cases hk : ixN xs.length i with
  | none => rw [hk] at e; cases e
  | some j =>
    rw [hk] at e
    exact r.get e
theorem cut_rel {vs : List V} {xs : List PV} (lo hi : Option Int) (r : RVs K mg flds g vs xs) : RVs K mg flds g (cutV vs lo hi) (cutP xs lo hi) := by
  unfold cutV cutP
  rw [r.length]
  exact (r.drop _).take _
end
section
variable {X : Cx} {flds : Fl}
def rIdx (K : PySem.W.Frag) (mg : Str → Option Value) (flds : Fl) : R2 := fun x y H Q => ∃ (g : Gh) (s : Store) (px py z : PV),
  RS K mg flds g H s ∧ RV K mg flds g x px ∧ RV K mg flds g y py ∧ idxSem s px py = some z ∧ ∀ v, RV K mg flds g v z → Q v H
theorem ix_dct (hu : X.A.units + 1 < cLine) : IxR X (fun x y H Q => ∃ a v, x = .ref a ∧ DGet H a y (some v) ∧ Q v H) := by
  intro value slice pins s σ H x y v u Q I rx ry h hs
  obtain ⟨a, w, rfl, hg, q⟩ := h
  cases rx
  exact tail_any (dict_typeIs I hg) PySem.F.slot_dict_getitem.lookup (d_getItem hu I hg ry fun w' s' I' rw' => ⟨w, H, I', rw', q⟩) hs
theorem ix_any (hu : X.A.units + 1 < cLine) : IxR X (rIdx X.K X.mg flds) := by
  intro value slice pins s₀ σ H x y v u Q I rx ry hh hsub
  obtain ⟨g, s, px, py, z, hs, hx, hy, e, q⟩ := hh
  have seqWay : ∀ {xs : List PV} {i : Int}, asSeq s px = some xs → py = .int i → atI xs i = some z → wpAny (model X.prog X.w) X.A (subscriptTail value slice v u) (EP X pins σ Q) X.xe s₀ := by
    intro xs i e1 e2 e3
    subst e2
    cases hy
    obtain ⟨a, vs, rfl, hq, r⟩ := asSeq_ok hs hx e1
    obtain ⟨w, e4, rw'⟩ := atI_rel r e3
    rcases hq with hq | hq
    · exact ix_list value slice pins s₀ σ H _ _ v u Q I rx ry ⟨_, _, _, _, rfl, rfl, hq, e4, q _ rw'⟩ hsub
    · exact ix_tup value slice pins s₀ σ H _ _ v u Q I rx ry ⟨_, _, _, _, rfl, rfl, hq, e4, q _ rw'⟩ hsub
  unfold idxSem at e
  split at e
  · cases hx; cases hy
    split at e
    · rename_i hz
      obtain ⟨c, e1, e2⟩ := Option.map_eq_some_iff.mp e
      subst e2
      exact ix_str value slice pins s₀ σ H _ _ v u Q I rx ry ⟨_, _, _, rfl, rfl, hz, e1, q _ (.str _)⟩ hsub
    · cases e
  · rename_i n
    cases hx with
    | obj h =>
      obtain ⟨o, e1, ro⟩ := hs.there h
      rw [e1] at e
      cases o with
      | lst xs =>
        dsimp only at e
        split at e
        · exact seqWay (xs := xs) (by simp only [asSeq]; rw [e1]) rfl e
        · cases e
      | dct kvs =>
        obtain ⟨ks, e2, r⟩ := ro
        dsimp only at e
        split at e
        · obtain ⟨w, e3, rw'⟩ := (rks_val r).1 _ e
          cases hy
          exact ix_dct hu value slice pins s₀ σ H _ _ v u Q I rx ry ⟨_, w, rfl, by rw [← e3]; exact DGet.k (k := .inl _) e2, q _ rw'⟩ hsub
        · obtain ⟨w, e3, rw'⟩ := (rks_val r).1 _ e
          cases hy
          exact ix_dct hu value slice pins s₀ σ H _ _ v u Q I rx ry ⟨_, w, rfl, by rw [← e3]; exact DGet.k (k := .inr _) e2, q _ rw'⟩ hsub
        · cases e
  · split at e
    · rename_i e1
      exact seqWay e1 rfl e
    · cases e
  · cases e
def rSli (K : PySem.W.Frag) (mg : Str → Option Value) (flds : Fl) : V → Option Int → Option Int → Hp → VK → Prop := fun x lo hi H Q => ∃ (g : Gh) (s : Store) (px : PV) (bx : Bool) (W : XK),
  RS K mg flds g H s ∧ RV K mg flds g x px ∧ Good K mg flds (RV K mg flds) g Q W (mkO bx (sliSem s px lo hi) s)
theorem sl_any : SlR X (rSli X.K X.mg flds) := by
  intro pins s₀ σ H x v vl vu lo hi sl Q I rx h1 h2 h3 hh
  obtain ⟨g, s, px, bx, W, hs, hx, h⟩ := hh
  unfold sliSem at h
  split at h
  · cases hx
    split at h
    · rename_i hz
      exact sl_str pins s₀ σ H _ v vl vu lo hi sl Q I rx h1 h2 h3 ⟨_, rfl, hz, mkV h (by intro xs e; cases e) _ _ _ Gh.le.rfl hs (.str _)⟩
    · exact h.elim
  · cases hx with
    | tup hq r =>
      have hv := mkV h (by intro xs e; cases e)
      refine sl_tupA pins s₀ σ H _ v vl vu lo hi sl Q I rx h1 h2 h3 ⟨_, _, rfl, sqt_heap hs hq, fun hw => ?_, fun _ => mkTup hs (cut_rel lo hi r) hv⟩
      have r2 := cut_rel lo hi r
      refine hv _ _ _ Gh.le.rfl hs (.tup hq ?_)
      unfold cutV at r2
      rw [hw.1, hw.2, List.drop_zero, Nat.sub_zero, List.take_length] at r2
      exact r2
  · rename_i x h1' h2'
    split at h
    · rename_i xs e1
      obtain ⟨a, vs, rfl, hq, r⟩ := asSeq_list hs hx e1 (by intro ys e; exact h2' _ e)
      exact sl_list pins s₀ σ H _ v vl vu lo hi sl Q I rx h1 h2 h3 ⟨_, _, rfl, hq, mkNew hs (cut_rel lo hi r) h⟩
    · exact h.elim
end
end MP

/-! The judgements of the small language: an expression of the text does what the evaluator says. -/
namespace MP
open PySem PySem.Spec PyProof.Rows L2
abbrev RVx (X : Cx) (flds : Fl) : Gh → V → PV → Prop := RV X.K X.mg flds
abbrev RVsx (X : Cx) (flds : Fl) : Gh → List V → List PV → Prop := RVs X.K X.mg flds
abbrev RSx (X : Cx) (flds : Fl) : Gh → Hp → Store → Prop := RS X.K X.mg flds
abbrev RLx (X : Cx) (flds : Fl) : Gh → L2.St → Env → Prop := RL X.K X.mg flds
abbrev Gd (X : Cx) (flds : Fl) {α β : Type} (rel : Gh → β → α → Prop) (g : Gh) (Q : β → Hp → Prop) (W : XK) (r : Res α) : Prop := Good X.K X.mg flds rel g Q W r
abbrev eqB : Gh → Bool → Bool → Prop := fun _ a b => a = b
abbrev eqO : Gh → Option Int → Option Int → Prop := fun _ a b => a = b

/-- the reading that a piece of the evaluator gives -/
def TM (X : Cx) (flds : Fl) {α β : Type} (rel : Gh → β → α → Prop) (W : WX) (m : Env → Store → Res α) : L2.St → Hp → (β → Hp → Prop) → Prop :=
  fun σ H Q => ∃ g env s, RSx X flds g H s ∧ RLx X flds g σ env ∧ Gd X flds rel g Q (fun c d H' => W c d σ H') (m env s)
def PEv (X : Cx) (flds : Fl) (e : Expr) (m : Env → Store → Res PV) : Prop := ∀ W, Takes X W → PE X e (TM X flds (RVx X flds) W m)
def PAv (X : Cx) (flds : Fl) (es : List Expr) (m : Env → Store → Res (List PV)) : Prop := ∀ W, Takes X W → PA X es (TM X flds (RVsx X flds) W m)
def PTv (X : Cx) (flds : Fl) (e : Expr) (m : Env → Store → Res PV) : Prop := ∀ W, Takes X W → PT X e (TM X flds eqB W fun env s => (m env s).bind fun x s => Res.of (truth s x) s)
def PWv (X : Cx) (flds : Fl) (e : Expr) (m : Env → Store → Res PV) : Prop := ∀ W, Takes X W → PW X e (TM X flds eqB W fun env s => (m env s).bind fun x s => Res.of (truth s x) s)
def POv (X : Cx) (flds : Fl) (e : Option Expr) (m : Env → Store → Res (Option Int)) : Prop := ∀ W, Takes X W → PO X e (TM X flds eqO W m)

section
variable {X : Cx} {flds : Fl}
theorem pe_imp {e : Expr} {t t' : TE} (h : PE X e t) (i : ∀ σ H Q, t' σ H Q → t σ H Q) : PE X e t' := ⟨fun pins s σ H Q I q => h.run pins s σ H Q I (i _ _ _ q)⟩
theorem pt_imp {e : Expr} {t t' : TT} (h : PT X e t) (i : ∀ σ H Q, t' σ H Q → t σ H Q) : PT X e t' := ⟨fun pins s σ H Q I q => h.run pins s σ H Q I (i _ _ _ q)⟩
theorem pw_imp {e : Expr} {t t' : TT} (h : PW X e t) (i : ∀ σ H Q, t' σ H Q → t σ H Q) : PW X e t' := ⟨fun wh pins s σ H Q I q => h.run wh pins s σ H Q I (i _ _ _ q)⟩
theorem pa_imp {es : List Expr} {t t' : TA} (h : PA X es t) (i : ∀ σ H Q, t' σ H Q → t σ H Q) : PA X es t' := ⟨fun pos pins s σ H Q I q => h.run pos pins s σ H Q I (i _ _ _ q)⟩
theorem po_imp {e : Option Expr} {t t' : TO} (h : PO X e t) (i : ∀ σ H Q, t' σ H Q → t σ H Q) : PO X e t' := ⟨fun pins s σ H Q I q => h.run pins s σ H Q I (i _ _ _ q)⟩

/-- one piece, then the rest: what the first piece's reading must be shown for -/
theorem TM.seq {α β γ δ : Type} {rel : Gh → β → α → Prop} {rel2 : Gh → δ → γ → Prop} {W : WX} {m : Env → Store → Res α} {f : α → Store → Res γ} {σ : L2.St} {H : Hp} {Q : δ → Hp → Prop} {R : β → Hp → Prop}
    {g : Gh} {env : Env} {s : Store} (hs : RSx X flds g H s) (hl : RLx X flds g σ env) (h : Gd X flds rel2 g Q (fun c d H' => W c d σ H') ((m env s).bind f))
    (k : ∀ v H1 g1 z s1, g.le g1 → RSx X flds g1 H1 s1 → RLx X flds g1 σ env → rel g1 v z → Gd X flds rel2 g1 Q (fun c d H' => W c d σ H') (f z s1) → R v H1) :
    TM X flds rel W m σ H R :=
  ⟨g, env, s, hs, hl, (Good.step (rel := rel) h).imp fun v H1 ⟨g1, z, s1, l, a, b, c⟩ => k v H1 g1 z s1 l a (hl.mono l) b c⟩

/-! ### constants, names -/
theorem sx_int {i : Int} {j : Nat} {pos : Pos} : PEv X flds (.Constant (.int i) j pos) fun _ s => .ok (.int i) s := fun W _ => pe_imp pe_int fun σ H Q ⟨g, env, s, hs, hl, h⟩ => h _ _ g Gh.le.rfl hs (.int i)
theorem sx_str {z : Str} {j : Nat} {pos : Pos} : PEv X flds (.Constant (.str z) j pos) fun _ s => .ok (.str z) s := fun W _ => pe_imp pe_str fun σ H Q ⟨g, env, s, hs, hl, h⟩ => h _ _ g Gh.le.rfl hs (.str z)
theorem sx_bl {b : Bool} {j : Nat} {pos : Pos} : PEv X flds (.Constant (.bool b) j pos) fun _ s => .ok (.bl b) s := fun W _ => pe_imp pe_bl fun σ H Q ⟨g, env, s, hs, hl, h⟩ => h _ _ g Gh.le.rfl hs (.bl b)
theorem sx_non {j : Nat} {pos : Pos} : PEv X flds (.Constant .none j pos) fun _ s => .ok .non s := fun W _ => pe_imp pe_non fun σ H Q ⟨g, env, s, hs, hl, h⟩ => h _ _ g Gh.le.rfl hs .non
def varSem (i : Nat) (env : Env) (s : Store) : Res PV := match env[i]? with
    | some .und => .stk
    | some v => .ok v s
    | none => .stk
theorem varSem_ok {i : Nat} {env : Env} {s : Store} {g : Gh} {α : Type} {rel : Gh → V → PV → Prop} {Q : V → Hp → Prop} {W : XK} (h : Gd X flds rel g Q W (varSem i env s)) : ∃ x, env[i]? = some x ∧ x ≠ .und ∧ varSem i env s = .ok x s := by
  unfold varSem at h ⊢
  cases e : env[i]? with
  | none => rw [e] at h; exact h.elim
  | some x =>
    rw [e] at h
    cases x <;> first | exact h.elim | exact ⟨_, rfl, by simp, rfl⟩
theorem sx_var {i : Nat} {x : Str} {pos : Pos} (hN : X.N[i]? = some x) (hv : Vis X.env.scope x) (hd : (x == ("__debug__" : Str)) = false) (hcd : (x == ("__classdict__" : Str)) = false) : PEv X flds (.Name x pos) (varSem i) :=
  fun W _ => pe_imp (pe_var hN hv hd hcd) fun σ H Q ⟨g, env, s, hs, hl, h⟩ => by
    obtain ⟨y, e, ne, e2⟩ := varSem_ok (α := PV) h
    rw [e2] at h
    obtain ⟨v, ev, rv⟩ := hl.2 i y e ne
    exact ⟨v, ev, h _ _ g Gh.le.rfl hs rv⟩
/-- a name of the module -/
theorem sx_glob {x : Str} {u : Value} {v : V} {p : PV} {pos : Pos} (hg : Gl X x) (hm : X.mg x = some u) (r : RelV v u) (hr : ∀ g, RVx X flds g v p) (hd : (x == ("__debug__" : Str)) = false) : PEv X flds (.Name x pos) fun _ s => .ok p s :=
  fun W _ => pe_imp (pe_glob hg hm r hd) fun σ H Q ⟨g, env, s, hs, hl, h⟩ => h _ _ g Gh.le.rfl hs (hr g)

/-! ### operators -/
variable {a b c : Expr} {ma mb mc : Env → Store → Res PV} {pos : Pos}
theorem sx_bin {op : BOp} {bx : Bool} (ha : PEv X flds a ma) (hb : PEv X flds b mb) : PEv X flds (.BinOp a (bopOf op) b pos) fun env s => (ma env s).bind fun x s => (mb env s).bind fun y s => mkO bx (binSem op s x y) s :=
  fun W tk => pe_imp (pe_op (op_bin (flds := flds) op) (ha W tk) (hb W tk)) fun σ H Q ⟨g, env, s, hs, hl, h⟩ =>
    TM.seq hs hl h fun v H1 g1 z s1 l1 hs1 hl1 rv h1 => TM.seq hs1 hl1 h1 fun u H2 g2 y s2 l2 hs2 hl2 ru h2 => ⟨g2, s2, z, y, bx, _, hs2, rv.mono l2, ru, h2⟩
theorem sx_neg (ha : PEv X flds a ma) : PEv X flds (.UnaryOp .USub a pos) fun env s => (ma env s).bind fun x s => match x with | .int i => .ok (.int (-i)) s | _ => .stk :=
  fun W tk => pe_imp (pe_un un_neg (ha W tk)) fun σ H Q ⟨g, env, s, hs, hl, h⟩ => TM.seq hs hl h fun v H1 g1 z s1 l1 hs1 hl1 rv h1 => by
    cases rv <;> first | exact h1.elim | exact ⟨_, rfl, h1 _ _ g1 Gh.le.rfl hs1 (.int _)⟩
theorem sx_nt (ha : PEv X flds a ma) : PEv X flds (.UnaryOp .Not a pos) fun env s => (ma env s).bind fun x s => (Res.of (truth s x) s).bind fun b s => .ok (.bl (!b)) s :=
  fun W tk => pe_imp (pe_notT (ha W tk)) fun σ H Q ⟨g, env, s, hs, hl, h⟩ => TM.seq hs hl h fun v H1 g1 z s1 l1 hs1 hl1 rv h1 => by
    obtain ⟨t, e, h2⟩ := Good.look h1
    exact ⟨t, truth_ok hs1 rv e, h2 _ _ g1 Gh.le.rfl hs1 (.bl _)⟩
theorem sx_cmp {op : COp} (hu : X.A.units + 65 < cLine) (hm : behindInMarks (copOf op) b = false) (ha : PEv X flds a ma) (hb : PEv X flds b mb) :
    PEv X flds (.Compare a [copOf op] [b] pos) fun env s => (ma env s).bind fun x s => (mb env s).bind fun y s => .of ((cmpSem op s x y).map .bl) s :=
  fun W tk => pe_imp (pe_cmpR (op_cmp (flds := flds) op hu) (ha W tk) (hb W tk) hm) fun σ H Q ⟨g, env, s, hs, hl, h⟩ =>
    TM.seq hs hl h fun v H1 g1 z s1 l1 hs1 hl1 rv h1 => TM.seq hs1 hl1 h1 fun u H2 g2 y s2 l2 hs2 hl2 ru h2 => by
      obtain ⟨w, e, q⟩ := Good.ofOpt h2
      obtain ⟨t, e1, e2⟩ := Option.map_eq_some_iff.mp e
      subst e2
      exact ⟨g2, s2, z, y, t, hs2, rv.mono l2, ru, e1, q _ _ g2 Gh.le.rfl hs2 (.bl _)⟩
theorem tst_cmp {op : COp} (hu : X.A.units + 65 < cLine) (hm : behindInMarks (copOf op) b = false) (ha : PEv X flds a ma) (hb : PEv X flds b mb) :
    PTv X flds (.Compare a [copOf op] [b] pos) fun env s => (ma env s).bind fun x s => (mb env s).bind fun y s => .of ((cmpSem op s x y).map .bl) s :=
  fun W tk => pt_imp (pt_cmpR (op_cmp (flds := flds) op hu) (ha W tk) (hb W tk) hm) fun σ H Q ⟨g, env, s, hs, hl, h⟩ => by
    have h' : Gd X flds eqB g Q (fun c d H' => W c d σ H') ((ma env s).bind fun x s => (mb env s).bind fun y s => (Res.of ((cmpSem op s x y).map PV.bl) s).bind fun x s => Res.of (truth s x) s) := by
      cases e : ma env s with
      | ok x s1 =>
        simp only [e, Res.bind_ok] at h ⊢
        cases e2 : mb env s1 with
        | ok y s2 => simpa only [e2, Res.bind_ok] using h
        | exc x s => simpa only [e2, Res.bind_exc] using h
        | stk => simpa only [e2, Res.bind_stk] using h
      | exc x s => simpa only [e, Res.bind_exc] using h
      | stk => simpa only [e, Res.bind_stk] using h
    refine TM.seq hs hl h' fun v H1 g1 z s1 l1 hs1 hl1 rv h1 => TM.seq hs1 hl1 h1 fun u H2 g2 y s2 l2 hs2 hl2 ru h2 => ?_
    obtain ⟨w, e, q⟩ := Good.look h2
    obtain ⟨t, e1, e2⟩ := Option.map_eq_some_iff.mp e
    subst e2
    exact ⟨g2, s2, z, y, t, hs2, rv.mono l2, ru, e1, t, rfl, q _ _ g2 Gh.le.rfl hs2 rfl⟩
theorem sx_chain {op op' : COp} (hu : X.A.units + 65 < cLine) (hm : lastMarks [copOf op, copOf op'] [b, c] = false) (ha : PEv X flds a ma) (hb : PEv X flds b mb) (hc : PEv X flds c mc) :
    PEv X flds (.Compare a [copOf op, copOf op'] [b, c] pos) fun env s => (ma env s).bind fun x s => (mb env s).bind fun y s => (Res.of (cmpSem op s x y) s).bind fun t s =>
      if t then (mc env s).bind fun z s => .of ((cmpSem op' s y z).map .bl) s else .ok (.bl false) s :=
  fun W tk => pe_imp (pe_chain (op_cmp (flds := flds) op hu) (op_cmp (flds := flds) op' hu) (ha W tk) (hb W tk) (hc W tk) hm) fun σ H Q ⟨g, env, s, hs, hl, h⟩ =>
    TM.seq hs hl h fun v H1 g1 z s1 l1 hs1 hl1 rv h1 => TM.seq hs1 hl1 h1 fun u H2 g2 y s2 l2 hs2 hl2 ru h2 => by
      obtain ⟨t, e, q⟩ := Good.look h2
      refine ⟨g2, s2, z, y, t, hs2, rv.mono l2, ru, e, t, rfl, ?_⟩
      cases t with
      | false =>
        rw [if_neg Bool.false_ne_true] at q ⊢
        exact q _ _ g2 Gh.le.rfl hs2 (.bl _)
      | true =>
        rw [if_pos rfl] at q ⊢
        refine TM.seq hs2 hl2 q fun w H3 g3 z3 s3 l3 hs3 hl3 rw3 h3 => ?_
        obtain ⟨w', e3, q3⟩ := Good.ofOpt h3
        obtain ⟨t, e1, e2⟩ := Option.map_eq_some_iff.mp e3
        subst e2
        exact ⟨g3, s3, y, z3, t, hs3, ru.mono l3, rw3, e1, q3 _ _ g3 Gh.le.rfl hs3 (.bl _)⟩
/-- any expression as a test, where the test is its value's truth -/
theorem tst_of (hp : ∀ whole, isTrue a X.env whole = (do let v ← whole; standAt a.pos; holding [v] (truthy v))) (ha : PEv X flds a ma) : PTv X flds a ma :=
  fun W tk => pt_imp (pt_truth (ha W tk) hp) fun σ H Q ⟨g, env, s, hs, hl, h⟩ => TM.seq hs hl h fun v H1 g1 z s1 l1 hs1 hl1 rv h1 => by
    obtain ⟨t, e, q⟩ := Good.ofOpt h1
    exact ⟨t, truth_ok hs1 rv e, q _ _ g1 Gh.le.rfl hs1 rfl⟩
theorem tst_nt (ha : PTv X flds a ma) : PTv X flds (.UnaryOp .Not a pos) fun env s => (ma env s).bind fun x s => (Res.of (truth s x) s).bind fun b s => .ok (.bl (!b)) s :=
  fun W tk => pt_imp (pt_not (ha W tk)) fun σ H Q ⟨g, env, s, hs, hl, h⟩ => by
    have h' : Gd X flds eqB g Q (fun c d H' => W c d σ H') (((ma env s).bind fun x s => Res.of (truth s x) s).bind fun b s => .ok (!b) s) := by
      cases e : ma env s with
      | ok x s1 =>
        simp only [e, Res.bind_ok] at h ⊢
        cases e2 : truth s1 x with
        | none => rw [e2] at h; exact h.elim
        | some t =>
          rw [e2] at h
          exact h
      | exc x s => simpa only [e, Res.bind_exc] using h
      | stk => simpa only [e, Res.bind_stk] using h
    exact TM.seq (rel := eqB) hs hl h' fun v H1 g1 z s1 l1 hs1 hl1 rv h1 => by
      subst rv
      exact h1 _ _ g1 Gh.le.rfl hs1 rfl
/-- x if t else y -/
theorem sx_ife (hc : PTv X flds c mc) (ha : PEv X flds a ma) (hb : PEv X flds b mb) :
    PEv X flds (.IfExp c a b pos) fun env s => (mc env s).bind fun x s => (Res.of (truth s x) s).bind fun t s => if t then ma env s else mb env s :=
  fun W tk => pe_imp (pe_ifExp (hc W tk) (ha W tk) (hb W tk)) fun σ H Q ⟨g, env, s, hs, hl, h⟩ => by
    have h' : Gd X flds (RVx X flds) g Q (fun c d H' => W c d σ H') (((mc env s).bind fun x s => Res.of (truth s x) s).bind fun t s => if t then ma env s else mb env s) := by
      cases e : mc env s with
      | ok x s1 => simpa only [e, Res.bind_ok] using h
      | exc x s => simpa only [e, Res.bind_exc] using h
      | stk => simpa only [e, Res.bind_stk] using h
    exact TM.seq (rel := eqB) (f := fun t s => if t then ma env s else mb env s) hs hl h' fun v H1 g1 z s1 l1 hs1 hl1 rv h1 => by
      subst rv
      cases v with
      | true =>
        rw [if_pos rfl] at h1 ⊢
        exact ⟨g1, env, s1, hs1, hl1, h1⟩
      | false =>
        rw [if_neg Bool.false_ne_true] at h1 ⊢
        exact ⟨g1, env, s1, hs1, hl1, h1⟩

/-! ### and, or -/
def andSem (ma mb : Env → Store → Res PV) (env : Env) (s : Store) : Res PV := (ma env s).bind fun x s => (Res.of (truth s x) s).bind fun t s => if t then mb env s else .ok x s
def orSem (ma mb : Env → Store → Res PV) (env : Env) (s : Store) : Res PV := (ma env s).bind fun x s => (Res.of (truth s x) s).bind fun t s => if t then .ok x s else mb env s
variable {rest : List Expr}
theorem sx_one {op : BoolOp} (ha : PEv X flds a ma) : PEv X flds (.BoolOp op [a] pos) ma := fun W tk => pe_one (ha W tk)
theorem sx_and (ha : PEv X flds a ma) (hb : PEv X flds (.BoolOp .And (b :: rest) pos) mb) : PEv X flds (.BoolOp .And (a :: b :: rest) pos) (andSem ma mb) :=
  fun W tk => pe_imp (pe_andT (ha W tk) (hb W tk)) fun σ H Q ⟨g, env, s, hs, hl, h⟩ => TM.seq (f := fun x s => (Res.of (truth s x) s).bind fun t s => if t then mb env s else .ok x s) hs hl h fun v H1 g1 z s1 l1 hs1 hl1 rv h1 => by
    obtain ⟨t, e, h2⟩ := Good.look h1
    refine ⟨t, truth_ok hs1 rv e, ?_⟩
    cases t with
    | true =>
      rw [if_pos rfl] at h2 ⊢
      exact ⟨g1, env, s1, hs1, hl1, h2⟩
    | false =>
      rw [if_neg Bool.false_ne_true] at h2 ⊢
      exact h2 _ _ g1 Gh.le.rfl hs1 rv
theorem sx_or (ha : PEv X flds a ma) (hb : PEv X flds (.BoolOp .Or (b :: rest) pos) mb) : PEv X flds (.BoolOp .Or (a :: b :: rest) pos) (orSem ma mb) :=
  fun W tk => pe_imp (pe_orT (ha W tk) (hb W tk)) fun σ H Q ⟨g, env, s, hs, hl, h⟩ => TM.seq (f := fun x s => (Res.of (truth s x) s).bind fun t s => if t then .ok x s else mb env s) hs hl h fun v H1 g1 z s1 l1 hs1 hl1 rv h1 => by
    obtain ⟨t, e, h2⟩ := Good.look h1
    refine ⟨t, truth_ok hs1 rv e, ?_⟩
    cases t with
    | true =>
      rw [if_pos rfl] at h2 ⊢
      exact h2 _ _ g1 Gh.le.rfl hs1 rv
    | false =>
      rw [if_neg Bool.false_ne_true] at h2 ⊢
      exact ⟨g1, env, s1, hs1, hl1, h2⟩
theorem tw_one {op : BoolOp} (ha : PTv X flds a ma) : PWv X flds (.BoolOp op [a] pos) ma := fun W tk => match op with
  | .And => pw_and1 (ha W tk)
  | .Or => pw_or1 (ha W tk)
theorem tw_and (ha : PTv X flds a ma) (hb : PWv X flds (.BoolOp .And (b :: rest) pos) mb) : PWv X flds (.BoolOp .And (a :: b :: rest) pos) (andSem ma mb) :=
  fun W tk => pw_imp (pw_and (ha W tk) (hb W tk)) fun σ H Q ⟨g, env, s, hs, hl, h⟩ => by
    have h' : Gd X flds eqB g Q (fun c d H' => W c d σ H') (((ma env s).bind fun x s => Res.of (truth s x) s).bind fun t s => if t then (mb env s).bind fun x s => Res.of (truth s x) s else .ok false s) := by
      unfold andSem at h
      cases e : ma env s with
      | ok x s1 =>
        simp only [e, Res.bind_ok] at h ⊢
        cases e2 : truth s1 x with
        | none => rw [e2] at h; exact h.elim
        | some t =>
          rw [e2] at h
          cases t with
          | true => exact h
          | false =>
            simp only [Res.of_some, Res.bind_ok, Bool.false_eq_true, if_false, e2] at h ⊢
            exact h
      | exc x s => simpa only [e, Res.bind_exc] using h
      | stk => simpa only [e, Res.bind_stk] using h
    exact TM.seq (rel := eqB) (f := fun t s => if t then (mb env s).bind fun x s => Res.of (truth s x) s else .ok false s) hs hl h' fun v H1 g1 z s1 l1 hs1 hl1 rv h1 => by
      subst rv
      cases v with
      | true =>
        rw [if_pos rfl] at h1 ⊢
        exact ⟨g1, env, s1, hs1, hl1, h1⟩
      | false =>
        rw [if_neg Bool.false_ne_true] at h1 ⊢
        exact h1 _ _ g1 Gh.le.rfl hs1 rfl
theorem tw_or (ha : PTv X flds a ma) (hb : PWv X flds (.BoolOp .Or (b :: rest) pos) mb) : PWv X flds (.BoolOp .Or (a :: b :: rest) pos) (orSem ma mb) :=
  fun W tk => pw_imp (pw_or (ha W tk) (hb W tk)) fun σ H Q ⟨g, env, s, hs, hl, h⟩ => by
    have h' : Gd X flds eqB g Q (fun c d H' => W c d σ H') (((ma env s).bind fun x s => Res.of (truth s x) s).bind fun t s => if t then .ok true s else (mb env s).bind fun x s => Res.of (truth s x) s) := by
      unfold orSem at h
      cases e : ma env s with
      | ok x s1 =>
        simp only [e, Res.bind_ok] at h ⊢
        cases e2 : truth s1 x with
        | none => rw [e2] at h; exact h.elim
        | some t =>
          rw [e2] at h
          cases t with
          | false => exact h
          | true =>
            simp only [Res.of_some, Res.bind_ok, if_true, e2] at h ⊢
            exact h
      | exc x s => simpa only [e, Res.bind_exc] using h
      | stk => simpa only [e, Res.bind_stk] using h
    exact TM.seq (rel := eqB) (f := fun t s => if t then .ok true s else (mb env s).bind fun x s => Res.of (truth s x) s) hs hl h' fun v H1 g1 z s1 l1 hs1 hl1 rv h1 => by
      subst rv
      cases v with
      | false =>
        rw [if_neg Bool.false_ne_true] at h1 ⊢
        exact ⟨g1, env, s1, hs1, hl1, h1⟩
      | true =>
        rw [if_pos rfl] at h1 ⊢
        exact h1 _ _ g1 Gh.le.rfl hs1 rfl
theorem tst_w (h : PWv X flds a ma) : PTv X flds a ma := fun W tk => (h W tk).pt
end
end MP

/-! Displays, built-ins, methods, places. -/
namespace MP
open PySem PySem.Spec PyProof.Rows L2
section
variable {X : Cx} {flds : Fl} {a b c : Expr} {ma mb mc : Env → Store → Res PV} {pos : Pos} {es : List Expr} {ms : Env → Store → Res (List PV)}
/-! ### rows of expressions -/
theorem sx_nil : PAv X flds [] fun _ s => .ok [] s := fun W _ => pa_imp pa_nil fun σ H Q ⟨g, env, s, hs, hl, h⟩ => h _ _ g Gh.le.rfl hs .nil
theorem sx_cons (hst : starEach (a :: es) X.env = (false, eval a X.env) :: starEach es X.env) (ha : PEv X flds a ma) (hr : PAv X flds es ms) :
    PAv X flds (a :: es) fun env s => (ma env s).bind fun x s => (ms env s).bind fun xs s => .ok (x :: xs) s :=
  fun W tk => pa_imp (pa_cons (ha W tk) (hr W tk) hst) fun σ H Q ⟨g, env, s, hs, hl, h⟩ => TM.seq hs hl h fun v H1 g1 z s1 l1 hs1 hl1 rv h1 =>
    TM.seq hs1 hl1 h1 fun vs H2 g2 zs s2 l2 hs2 hl2 rvs h2 => h2 _ _ g2 Gh.le.rfl hs2 (.cons (rv.mono l2) rvs)
theorem sx_tup {k : Nat} (h : PAv X flds es ms) : PEv X flds (.Tuple es k pos) fun env s => (ms env s).bind fun xs s => if xs.length ≤ line then .ok (.tup xs) s else .stk :=
  fun W tk => pe_imp (pe_tup (h W tk)) fun σ H Q ⟨g, env, s, hs, hl, h⟩ => TM.seq hs hl h fun vs H1 g1 zs s1 l1 hs1 hl1 rv h1 => by
    split at h1
    · rename_i hz
      exact ⟨by rw [rv.length]; exact hz, mkTup hs1 rv h1⟩
    · exact h1.elim
theorem sx_lst {bx : Bool} (h : PAv X flds es ms) : PEv X flds (.List es pos) fun env s => (ms env s).bind fun xs s => if xs.length ≤ line then mkL bx (.lst xs) s else .stk :=
  fun W tk => pe_imp (pe_lst (h W tk)) fun σ H Q ⟨g, env, s, hs, hl, h⟩ => TM.seq hs hl h fun vs H1 g1 zs s1 l1 hs1 hl1 rv h1 => by
    split at h1
    · rename_i hz
      exact ⟨by rw [rv.length]; exact hz, mkNew hs1 rv h1⟩
    · exact h1.elim

/-! ### a[b], a[lo:hi] -/
theorem sx_idx (hu : X.A.units + 1 < cLine) (hp : PlainIx b) (ha : PEv X flds a ma) (hb : PEv X flds b mb) : PEv X flds (.Subscript a b pos) fun env s => (ma env s).bind fun x s => (mb env s).bind fun y s => .of (idxSem s x y) s :=
  fun W tk => pe_imp (pe_ix (ix_any (flds := flds) hu) (ha W tk) (hb W tk) hp) fun σ H Q ⟨g, env, s, hs, hl, h⟩ =>
    TM.seq hs hl h fun v H1 g1 z s1 l1 hs1 hl1 rv h1 => TM.seq hs1 hl1 h1 fun u H2 g2 y s2 l2 hs2 hl2 ru h2 => by
      obtain ⟨w, e, q⟩ := Good.ofOpt h2
      exact ⟨g2, s2, z, y, w, hs2, rv.mono l2, ru, e, fun v' r' => q _ _ g2 Gh.le.rfl hs2 r'⟩
theorem so_no : POv X flds none fun _ s => .ok none s := fun W _ => po_imp po_none fun σ H Q ⟨g, env, s, hs, hl, h⟩ => h _ _ g Gh.le.rfl hs rfl
theorem so_so (ha : PEv X flds a ma) : POv X flds (some a) fun env s => (ma env s).bind fun x s => match x with | .int i => .ok (some i) s | _ => .stk :=
  fun W tk => po_imp (po_some (ha W tk)) fun σ H Q ⟨g, env, s, hs, hl, h⟩ => TM.seq hs hl h fun v H1 g1 z s1 l1 hs1 hl1 rv h1 => by
    cases rv <;> first | exact h1.elim | exact ⟨_, rfl, h1 _ _ g1 Gh.le.rfl hs1 rfl⟩
theorem sx_sli {lo hi : Option Expr} {ml mh : Env → Store → Res (Option Int)} {bx : Bool} {p2 : Pos} (ha : PEv X flds a ma) (hlo : POv X flds lo ml) (hhi : POv X flds hi mh) :
    PEv X flds (.Subscript a (.Slice lo hi none p2) pos) fun env s => (ma env s).bind fun x s => (ml env s).bind fun l s => (mh env s).bind fun h s => mkO bx (sliSem s x l h) s :=
  fun W tk => pe_imp (pe_slice (sl_any (flds := flds)) (ha W tk) (hlo W tk) (hhi W tk)) fun σ H Q ⟨g, env, s, hs, hl, h⟩ =>
    TM.seq hs hl h fun v H1 g1 z s1 l1 hs1 hl1 rv h1 => TM.seq (rel := eqO) hs1 hl1 h1 fun o H2 g2 o' s2 l2 hs2 hl2 ro h2 => TM.seq (rel := eqO) hs2 hl2 h2 fun o2 H3 g3 o2' s3 l3 hs3 hl3 ro2 h3 => by
      subst ro
      subst ro2
      exact ⟨g3, s3, z, bx, _, hs3, (rv.mono l2).mono l3, h3⟩

/-! ### built-in functions -/
def bltVal : Blt → Option (Str × Value)
  | .len => some ("len", .builtin "len")
  | .abs => some ("abs", .builtin "abs")
  | .max2 => some ("max", .builtin "max")
  | .min2 => some ("min", .builtin "min")
  | .int1 => some ("int", .type "int")
  | .str1 => some ("str", .type "str")
  | .ord => some ("ord", .builtin "ord")
  | .tuple1 => some ("tuple", .type "tuple")
  | .list1 => some ("list", .type "list")
  | .sum1 => some ("sum", .builtin "sum")
  | .all1 => some ("all", .builtin "all")
  | .any1 => some ("any", .builtin "any")
  | .repr1 => some ("repr", .builtin "repr")
  | .sorted1 => some ("sorted", .builtin "sorted")
  | .max1 => some ("max", .builtin "max")
  | .min1 => some ("min", .builtin "min")
  | _ => none
theorem boot_blt {f : Blt} {x : Str} {u : Value} (h : bltVal f = some (x, u)) : bootBuiltins x = some u := by
  cases f <;> simp only [bltVal] at h <;> first | cases h; done | (cases h; decide +kernel)
theorem one_arg {g : Gh} {vs : List V} {x : PV} (r : RVsx X flds g vs [x]) : ∃ v, vs = [v] ∧ RVx X flds g v x := by
  cases r with
  | cons h t => cases t; exact ⟨_, rfl, h⟩
theorem two_arg {g : Gh} {vs : List V} {x y : PV} (r : RVsx X flds g vs [x, y]) : ∃ v w, vs = [v, w] ∧ RVx X flds g v x ∧ RVx X flds g w y := by
  cases r with
  | cons h t => cases t with
    | cons h' t' => cases t'; exact ⟨_, _, rfl, h, h'⟩
theorem bools_ok {g : Gh} : ∀ {vs : List V} {xs : List PV} {bs : List Bool}, RVsx X flds g vs xs → bools? xs = some bs → vs = bs.map V.bl
  | _, [], _, .nil, e => by
    simp only [bools?] at e
    cases e
    rfl
  | _, x :: xs, bs, .cons h r, e => by
    cases h <;> simp only [bools?] at e <;> first | cases e; done | skip
    obtain ⟨cs, e1, e2⟩ := Option.map_eq_some_iff.mp e
    subst e2
    rw [bools_ok r e1]
    rfl
theorem ints_ok {g : Gh} : ∀ {vs : List V} {xs : List PV} {bs : List Int}, RVsx X flds g vs xs → ints? xs = some bs → vs = bs.map V.int
  | _, [], _, .nil, e => by
    simp only [ints?] at e
    cases e
    rfl
  | _, x :: xs, bs, .cons h r, e => by
    cases h <;> simp only [ints?] at e <;> first | cases e; done | skip
    obtain ⟨cs, e1, e2⟩ := Option.map_eq_some_iff.mp e
    subst e2
    rw [ints_ok r e1]
    rfl
theorem strs_ok {g : Gh} : ∀ {vs : List V} {xs : List PV} {bs : List Str}, RVsx X flds g vs xs → strs? xs = some bs → vs = bs.map V.str
  | _, [], _, .nil, e => by
    simp only [strs?] at e
    cases e
    rfl
  | _, x :: xs, bs, .cons h r, e => by
    cases h <;> simp only [strs?] at e <;> first | cases e; done | skip
    obtain ⟨cs, e1, e2⟩ := Option.map_eq_some_iff.mp e
    subst e2
    rw [strs_ok r e1]
    rfl
theorem lints_of {g : Gh} : ∀ l : List Int, RVsx X flds g (l.map V.int) (l.map PV.int)
  | [] => .nil
  | z :: l => .cons (.int z) (lints_of l)
theorem foldl_max_ge : ∀ (xs : List Int) (b : Int), b ≤ xs.foldl max b ∧ ∀ y ∈ xs, y ≤ xs.foldl max b
  | [], b => ⟨Int.le_refl _, fun _ h => by cases h⟩
  | x :: xs, b => by
    obtain ⟨h1, h2⟩ := foldl_max_ge xs (max b x)
    refine ⟨Int.le_trans (by omega) h1, fun y hy => ?_⟩
    rcases List.mem_cons.mp hy with e | hy
    · rw [e]; exact Int.le_trans (show x ≤ max b x by omega) h1
    · exact h2 y hy
theorem foldl_max_mem : ∀ (xs : List Int) (b : Int), xs.foldl max b = b ∨ xs.foldl max b ∈ xs
  | [], b => .inl rfl
  | x :: xs, b => by
    rcases foldl_max_mem xs (max b x) with e | e
    · rw [List.foldl_cons, e]
      rcases Int.le_total b x with q | q
      · exact .inr (by rw [Int.max_eq_right q]; exact List.mem_cons_self)
      · exact .inl (Int.max_eq_left q)
    · exact .inr (List.mem_cons_of_mem _ e)
theorem max_one {b : Int} {bs : List Int} {m : Int} (h1 : m ∈ b :: bs) (h2 : ∀ y, y ∈ b :: bs → y ≤ m) : m = bs.foldl max b := by
  obtain ⟨g1, g2⟩ := foldl_max_ge bs b
  have a : m ≤ bs.foldl max b := by
    rcases List.mem_cons.mp h1 with e | e
    · rw [e]; exact g1
    · exact g2 m e
  have c : bs.foldl max b ≤ m := by
    rcases foldl_max_mem bs b with e | e
    · rw [e]; exact h2 b List.mem_cons_self
    · exact h2 _ (List.mem_cons_of_mem _ e)
  omega
theorem foldl_min_le : ∀ (xs : List Int) (b : Int), xs.foldl min b ≤ b ∧ ∀ y ∈ xs, xs.foldl min b ≤ y
  | [], b => ⟨Int.le_refl _, fun _ h => by cases h⟩
  | x :: xs, b => by
    obtain ⟨h1, h2⟩ := foldl_min_le xs (min b x)
    refine ⟨Int.le_trans h1 (by omega), fun y hy => ?_⟩
    rcases List.mem_cons.mp hy with e | hy
    · rw [e]; exact Int.le_trans h1 (show min b x ≤ x by omega)
    · exact h2 y hy
theorem foldl_min_mem : ∀ (xs : List Int) (b : Int), xs.foldl min b = b ∨ xs.foldl min b ∈ xs
  | [], b => .inl rfl
  | x :: xs, b => by
    rcases foldl_min_mem xs (min b x) with e | e
    · rw [List.foldl_cons, e]
      rcases Int.le_total b x with q | q
      · exact .inl (Int.min_eq_left q)
      · exact .inr (by rw [Int.min_eq_right q]; exact List.mem_cons_self)
    · exact .inr (List.mem_cons_of_mem _ e)
theorem min_one {b : Int} {bs : List Int} {m : Int} (h1 : m ∈ b :: bs) (h2 : ∀ y, y ∈ b :: bs → m ≤ y) : m = bs.foldl min b := by
  obtain ⟨g1, g2⟩ := foldl_min_le bs b
  have a : bs.foldl min b ≤ m := by
    rcases List.mem_cons.mp h1 with e | e
    · rw [e]; exact g1
    · exact g2 m e
  have c : m ≤ bs.foldl min b := by
    rcases foldl_min_mem bs b with e | e
    · rw [e]; exact h2 b List.mem_cons_self
    · exact h2 _ (List.mem_cons_of_mem _ e)
  omega
theorem asLs_ok {g : Gh} {H : Hp} {s : Store} {v : V} {x : PV} {xs : List PV} (hs : RSx X flds g H s) (hx : RVx X flds g v x) (e : asLs s x = some xs) : ∃ a vs, v = .ref a ∧ SqL X.K H a vs ∧ RVsx X flds g vs xs := by
  unfold asLs at e
  split at e
  · cases e
  · rename_i nt
    exact asSeq_list hs hx e nt
/-- repr of a list, of a tuple -/
theorem call_reprD (hu : X.A.units + 65 < cLine) (hgd : X.A.guards = some []) : CallR X (.builtin "repr") (fun xs H Q => ∃ v d, xs = [v] ∧ Dp X.K H v d ∧ (isDisp d && d.showable && !d.hasDict && decide (d.depth ≤ 60) && decide (d.shown.length ≤ line)) = true ∧ Q (.str d.shown) H) := by
  intro pins s σ H xs us Q I r h
  obtain ⟨v, d, rfl, hd, hc, q⟩ := h
  simp only [Bool.and_eq_true, Bool.not_eq_true', decide_eq_true_eq] at hc
  obtain ⟨⟨⟨⟨h1, h2⟩, h3⟩, h4⟩, h5⟩ := hc
  cases r with
  | cons ru rn =>
    cases rn
    obtain ⟨as, rd⟩ := Dp.reads I d v _ hd ru
    have : ∃ a, v = .ref a := by
      cases hd <;> first | exact ⟨_, rfl⟩ | cases h1
    obtain ⟨a, rfl⟩ := this
    cases ru
    refine repr_of_reads' rd h2 (PyData.noDict_hsm h3) hgd (by omega) (fun _ _ e => e) (fun h' u tk hk => ?_) h5
    exact ⟨.str d.shown, H, I.un (t' := tk) (Un.kept hk) (I.hok.kept hk), ⟨u, rfl⟩, q⟩
def rBlt (X : Cx) (flds : Fl) (f : Blt) : List V → Hp → VK → Prop := fun vs H Q => ∃ (g : Gh) (s : Store) (xs : List PV) (bx : Bool) (W : XK) (sub : Str → Str → Option Bool),
  RSx X flds g H s ∧ RVsx X flds g vs xs ∧ Gd X flds (RVx X flds) g Q W (mkO bx (bltSem sub f s xs) s)
theorem blt_ok {f : Blt} {x : Str} {u : Value} (hu : X.A.units + 65 < cLine) (hgd : X.A.guards = some []) (hc : X.calm = true) (h : bltVal f = some (x, u)) : CallR X u (rBlt X flds f) := by
  intro pins s₀ σ H vs us Q I r hh
  obtain ⟨g, s, xs, bx, W, sub, hs, rv, hg⟩ := hh
  have val : ∀ {z : PV}, bltSem sub f s xs = some z → (∀ ys, z ≠ .lst ys) → ∀ v H' g', g.le g' → RSx X flds g' H' s → RVx X flds g' v z → Q v H' := fun e nz => by
    rw [e] at hg
    exact mkV hg nz
  unfold bltSem at hg val
  split at hg <;> simp only [bltVal] at h <;> first | cases h; done | skip
  · -- len of a text
    cases h
    obtain ⟨v, rfl, r1⟩ := one_arg rv
    cases r1
    split at hg
    · rename_i hz
      exact call_len_str pins s₀ σ H _ us Q I r ⟨_, rfl, hz, mkV hg (by intro _ e; cases e) _ _ _ Gh.le.rfl hs (.int _)⟩
    · exact hg.elim
  · cases h
    obtain ⟨v, rfl, r1⟩ := one_arg rv
    split at hg
    · rename_i e1
      obtain ⟨p, ws, rfl, q, r2⟩ := asSeq_ok hs r1 e1
      exact call_len_seq pins s₀ σ H _ us Q I r ⟨_, _, rfl, q, by rw [r2.length]; exact mkV hg (by intro _ e; cases e) _ _ _ Gh.le.rfl hs (.int _)⟩
    · exact hg.elim
  · cases h
    obtain ⟨v, rfl, r1⟩ := one_arg rv
    cases r1
    exact call_abs pins s₀ σ H _ us Q I r ⟨_, rfl, mkV hg (by intro _ e; cases e) _ _ _ Gh.le.rfl hs (.int _)⟩
  · cases h
    obtain ⟨v, w, rfl, r1, r2⟩ := two_arg rv
    cases r1; cases r2
    exact call_max2 hc pins s₀ σ H _ us Q I r ⟨_, _, rfl, mkV hg (by intro _ e; cases e) _ _ _ Gh.le.rfl hs (.int _)⟩
  · cases h
    obtain ⟨v, w, rfl, r1, r2⟩ := two_arg rv
    cases r1; cases r2
    exact call_min2 hc pins s₀ σ H _ us Q I r ⟨_, _, rfl, mkV hg (by intro _ e; cases e) _ _ _ Gh.le.rfl hs (.int _)⟩
  · cases h
    obtain ⟨v, rfl, r1⟩ := one_arg rv
    cases r1
    exact call_int1 pins s₀ σ H _ us Q I r (.inl ⟨_, rfl, mkV hg (by intro _ e; cases e) _ _ _ Gh.le.rfl hs (.int _)⟩)
  · cases h
    obtain ⟨v, rfl, r1⟩ := one_arg rv
    cases r1
    exact call_int1 pins s₀ σ H _ us Q I r (.inr ⟨_, rfl, mkV hg (by intro _ e; cases e) _ _ _ Gh.le.rfl hs (.int _)⟩)
  · cases h
    obtain ⟨v, rfl, r1⟩ := one_arg rv
    cases r1
    split at hg
    · rename_i hz
      exact call_str_int pins s₀ σ H _ us Q I r ⟨_, rfl, hz, mkV hg (by intro _ e; cases e) _ _ _ Gh.le.rfl hs (.str _)⟩
    · exact hg.elim
  · cases h
    obtain ⟨v, rfl, r1⟩ := one_arg rv
    cases r1
    split at hg
    · rename_i hz
      exact call_ord pins s₀ σ H _ us Q I r ⟨_, rfl, hz, mkV hg (by intro _ e; cases e) _ _ _ Gh.le.rfl hs (.int _)⟩
    · exact hg.elim
  · cases h
    obtain ⟨v, rfl, r1⟩ := one_arg rv
    split at hg
    · have hv := mkV hg (by intro _ e; cases e)
      cases r1 with
      | tup q r2 => exact call_tuple_of pins s₀ σ H _ us Q I r ⟨_, _, rfl, .inr ⟨sqt_heap hs q, hv _ _ _ Gh.le.rfl hs (.tup q r2)⟩⟩
    · rename_i nt
      cases e : asSeq s _ with
      | none => rw [e] at hg; exact hg.elim
      | some ys =>
        rw [e] at hg
        obtain ⟨p, ws, rfl, q, r2⟩ := asSeq_list hs r1 e nt
        exact call_tuple_of pins s₀ σ H _ us Q I r ⟨_, _, rfl, .inl ⟨q, mkTup hs r2 (mkV hg (by intro _ e; cases e))⟩⟩
  · cases h
    obtain ⟨v, rfl, r1⟩ := one_arg rv
    cases e : asSeq s _ with
    | none => rw [e] at hg; exact hg.elim
    | some ys =>
      rw [e] at hg
      obtain ⟨p, ws, rfl, q, r2⟩ := asSeq_ok hs r1 e
      exact call_list_of pins s₀ σ H _ us Q I r ⟨_, _, rfl, q, mkNew hs r2 hg⟩
  · cases h
    obtain ⟨v, rfl, r1⟩ := one_arg rv
    cases r1
    split at hg
    · rename_i hz
      rename_i z
      cases e : PySem.intText? z with
      | none => rw [e] at hg; exact hg.elim
      | some n =>
        rw [e] at hg
        exact call_int_str pins s₀ σ H _ us Q I r ⟨_, _, rfl, e, hz, mkV hg (by intro _ e; cases e) _ _ _ Gh.le.rfl hs (.int _)⟩
    · exact hg.elim
  · cases h
    obtain ⟨v, rfl, r1⟩ := one_arg rv
    cases e : asLs s _ with
    | none => rw [e] at hg; exact hg.elim
    | some ys =>
      rw [e, Option.bind_some] at hg
      obtain ⟨p, ws, rfl, q, r2⟩ := asLs_ok hs r1 e
      cases e2 : bools? ys with
      | none => rw [e2] at hg; exact hg.elim
      | some bs =>
        rw [e2] at hg
        rw [bools_ok r2 e2] at q
        exact cr_all hc pins s₀ σ H _ us Q I r ⟨_, _, rfl, q, mkV hg (by intro _ e; cases e) _ _ _ Gh.le.rfl hs (.bl _)⟩
  · cases h
    obtain ⟨v, rfl, r1⟩ := one_arg rv
    cases e : asLs s _ with
    | none => rw [e] at hg; exact hg.elim
    | some ys =>
      rw [e, Option.bind_some] at hg
      obtain ⟨p, ws, rfl, q, r2⟩ := asLs_ok hs r1 e
      cases e2 : bools? ys with
      | none => rw [e2] at hg; exact hg.elim
      | some bs =>
        rw [e2] at hg
        rw [bools_ok r2 e2] at q
        exact cr_any hc pins s₀ σ H _ us Q I r ⟨_, _, rfl, q, mkV hg (by intro _ e; cases e) _ _ _ Gh.le.rfl hs (.bl _)⟩
  · cases h
    obtain ⟨v, rfl, r1⟩ := one_arg rv
    cases e : asLs s _ with
    | none => rw [e] at hg; exact hg.elim
    | some ys =>
      rw [e, Option.bind_some] at hg
      obtain ⟨p, ws, rfl, q, r2⟩ := asLs_ok hs r1 e
      cases e2 : ints? ys with
      | none => rw [e2] at hg; exact hg.elim
      | some bs =>
        rw [e2] at hg
        rw [ints_ok r2 e2] at q
        exact cr_sum hc pins s₀ σ H _ us Q I r ⟨_, _, rfl, q, mkV hg (by intro _ e; cases e) _ _ _ Gh.le.rfl hs (.int _)⟩
  · cases h
    obtain ⟨v, rfl, r1⟩ := one_arg rv
    cases e : datO s _ with
    | none => rw [e] at hg; exact hg.elim
    | some d =>
      rw [e] at hg
      dsimp only at hg
      split at hg
      · rename_i hc2
        exact call_reprD hu hgd pins s₀ σ H _ us Q I r ⟨_, d, rfl, datO_ok hs r1 e, hc2, mkV hg (by intro _ e; cases e) _ _ _ Gh.le.rfl hs (.str _)⟩
      · exact hg.elim
  · cases h
    obtain ⟨v, rfl, r1⟩ := one_arg rv
    cases e : asSeq s _ with
    | none => rw [e] at hg; exact hg.elim
    | some ys =>
      rw [e, Option.bind_some] at hg
      obtain ⟨p, ws, rfl, q, r2⟩ := asSeq_ok hs r1 e
      cases e2 : ints? ys with
      | none => rw [e2] at hg; exact hg.elim
      | some bs =>
        rw [e2] at hg
        rw [ints_ok r2 e2] at q
        exact cr_srt pins s₀ σ H _ us Q I r ⟨_, _, rfl, q, mkNew hs (lints_of _) hg⟩
  · cases h
    obtain ⟨v, rfl, r1⟩ := one_arg rv
    cases e : asLs s _ with
    | none => rw [e] at hg; exact hg.elim
    | some ys =>
      rw [e, Option.bind_some] at hg
      obtain ⟨p, ws, rfl, q, r2⟩ := asLs_ok hs r1 e
      cases e2 : ints? ys with
      | none => rw [e2] at hg; exact hg.elim
      | some bs =>
        rw [e2] at hg
        rw [ints_ok r2 e2] at q
        cases bs with
        | nil => exact hg.elim
        | cons b bs =>
          have hv := mkV hg (by intro _ e; cases e) _ _ _ Gh.le.rfl hs (.int _)
          refine cr_max hc pins s₀ σ H _ us Q I r ⟨_, _, rfl, q, Nat.succ_pos _, fun m h1 h2 => ?_⟩
          rw [max_one h1 h2]
          exact hv
  · cases h
    obtain ⟨v, rfl, r1⟩ := one_arg rv
    cases e : asLs s _ with
    | none => rw [e] at hg; exact hg.elim
    | some ys =>
      rw [e, Option.bind_some] at hg
      obtain ⟨p, ws, rfl, q, r2⟩ := asLs_ok hs r1 e
      cases e2 : ints? ys with
      | none => rw [e2] at hg; exact hg.elim
      | some bs =>
        rw [e2] at hg
        rw [ints_ok r2 e2] at q
        cases bs with
        | nil => exact hg.elim
        | cons b bs =>
          have hv := mkV hg (by intro _ e; cases e) _ _ _ Gh.le.rfl hs (.int _)
          refine cr_min hc pins s₀ σ H _ us Q I r ⟨_, _, rfl, q, Nat.succ_pos _, fun m h1 h2 => ?_⟩
          rw [min_one h1 h2]
          exact hv
  all_goals exact hg.elim
/-! ### len(set(x)), sorted(set(x)) -/
theorem sx_nset {bx : Bool} {sub : Str → Str → Option Bool} {p p2 q : Pos} (hc : X.calm = true) (hg : Gl X "len") (hm : X.mg "len" = none) (hg2 : Gl X "set") (hm2 : X.mg "set" = none)
    (hst : starEach [a] X.env = (false, eval a X.env) :: starEach [] X.env) (h : PEv X flds a ma) :
    PEv X flds (.Call (.Name "len" p) [.Call (.Name "set" p2) [a] [] q] [] pos) fun env s => (ma env s).bind fun x s => mkO bx (bltSem sub .nset1 s [x]) s := by
  intro W tk
  have i := pe_callTy (p := p2) (pos := q) (cr_setI hc) hg2 hm2 PyProof.Rows.boot_set (pa_cons (h W tk) pa_nil hst) (by decide) (by decide) hst rfl
  have key := pe_callB (p := p) (pos := pos) cr_lenSet hg hm (boot_blt (f := .len) rfl) (pa_cons i pa_nil rfl) (by decide) (by decide) rfl rfl
  refine pe_imp key fun σ H Q ⟨g, env, s, hs, hl, h⟩ => ?_
  refine TM.seq hs hl h fun v H1 g1 z s1 l1 hs1 hl1 rv h1 => ?_
  have h1 : Gd X flds (RVx X flds) g1 Q (fun c d H' => W c d σ H') (mkO bx ((asSeq s1 z).bind fun xs => (ints? xs).bind fun l => if l.length ≤ 2000 then some (.int (onceI l).length) else none) s1) := h1
  cases e : asSeq s1 z with
  | none => rw [e] at h1; exact h1.elim
  | some ys =>
    rw [e, Option.bind_some] at h1
    obtain ⟨a, ws, rfl, q, r2⟩ := asSeq_ok hs1 rv e
    cases e2 : ints? ys with
    | none => rw [e2] at h1; exact h1.elim
    | some bs =>
      rw [e2, Option.bind_some] at h1
      rw [ints_ok r2 e2] at q
      split at h1
      · rename_i hz
        refine ⟨_, _, rfl, q, hz, fun y hy => ⟨_, _, _, rfl, upd_same, ?_⟩⟩
        have := mkV h1 (by intro _ e; cases e)
        obtain ⟨l, hs2⟩ := hs1.frozen (SetO X.w y (fun j => decide (j ∈ bs)) (onceI bs).length) hy (by intro _ z; unfold SetO at z; cases z)
        exact this _ _ _ l hs2 (.int _)
      · exact h1.elim
theorem sx_ssort {bx : Bool} {sub : Str → Str → Option Bool} {p p2 q : Pos} (hc : X.calm = true) (hg : Gl X "sorted") (hm : X.mg "sorted" = none) (hg2 : Gl X "set") (hm2 : X.mg "set" = none)
    (hst : starEach [a] X.env = (false, eval a X.env) :: starEach [] X.env) (h : PEv X flds a ma) :
    PEv X flds (.Call (.Name "sorted" p) [.Call (.Name "set" p2) [a] [] q] [] pos) fun env s => (ma env s).bind fun x s => mkO bx (bltSem sub .ssort1 s [x]) s := by
  intro W tk
  have i := pe_callTy (p := p2) (pos := q) (cr_setI hc) hg2 hm2 PyProof.Rows.boot_set (pa_cons (h W tk) pa_nil hst) (by decide) (by decide) hst rfl
  have key := pe_callB (p := p) (pos := pos) (cr_sortedSet hc) hg hm (boot_blt (f := .sorted1) rfl) (pa_cons i pa_nil rfl) (by decide) (by decide) rfl rfl
  refine pe_imp key fun σ H Q ⟨g, env, s, hs, hl, h⟩ => ?_
  refine TM.seq hs hl h fun v H1 g1 z s1 l1 hs1 hl1 rv h1 => ?_
  have h1 : Gd X flds (RVx X flds) g1 Q (fun c d H' => W c d σ H') (mkO bx ((asSeq s1 z).bind fun xs => (ints? xs).bind fun l => if l.length ≤ 2000 ∧ (onceI l).length < 64 then some (.lst ((sortI (onceI l)).map .int)) else none) s1) := h1
  cases e : asSeq s1 z with
  | none => rw [e] at h1; exact h1.elim
  | some ys =>
    rw [e, Option.bind_some] at h1
    obtain ⟨a, ws, rfl, q, r2⟩ := asSeq_ok hs1 rv e
    cases e2 : ints? ys with
    | none => rw [e2] at h1; exact h1.elim
    | some bs =>
      rw [e2, Option.bind_some] at h1
      rw [ints_ok r2 e2] at q
      split at h1
      · rename_i hz
        refine ⟨_, _, rfl, q, hz.1, fun y hy => ⟨_, _, _, rfl, upd_same, hz.2, fun ns p hp1 hp2 hp3 hp4 => ?_⟩⟩
        obtain ⟨l, hs2⟩ := hs1.frozen (SetO X.w y (fun j => decide (j ∈ bs)) (onceI bs).length) hy (by intro _ z; unfold SetO at z; cases z)
        have pm : ns.Perm (onceI bs) := (List.perm_ext_iff_of_nodup (lt_nodup hp1) (onceI_nodup bs)).mpr fun k => by rw [mem_onceI, hp2, decide_eq_true_eq]
        rw [sortI_eq pm (lt_le hp1)]
        exact mkNew hs2 (lints_of _) (h1.mono l) p hp4
      · exact h1.elim
theorem sx_blt {f : Blt} {x : Str} {u : Value} {bx : Bool} {sub : Str → Str → Option Bool} {p : Pos} (hu : X.A.units + 65 < cLine) (hgd : X.A.guards = some []) (hc : X.calm = true) (hv : bltVal f = some (x, u)) (hg : Gl X x) (hm : X.mg x = none)
    (hst : starEach (a :: es) X.env = (false, eval a X.env) :: starEach es X.env) (hpl : (backTo pos (starEach es X.env)).any (·.1) = false) (h : PAv X flds (a :: es) ms) :
    PEv X flds (.Call (.Name x p) (a :: es) [] pos) fun env s => (ms env s).bind fun xs s => mkO bx (bltSem sub f s xs) s := by
  intro W tk
  have hn : x ≠ "__name__" ∧ (x == ("__debug__" : Str)) = false := by
    cases f <;> simp only [bltVal] at hv <;> first | cases hv; done | (cases hv; exact ⟨by decide, by decide⟩)
  have key : PE X (.Call (.Name x p) (a :: es) [] pos) (tCB (rBlt X flds f) (TM X flds (RVsx X flds) W ms)) := by
    have hk := blt_ok (flds := flds) hu hgd hc hv
    have hb := boot_blt hv
    have hu : (∃ id, u = .builtin id) ∨ ∃ T, u = .type T := by
      cases f <;> simp only [bltVal] at hv <;> first | cases hv; done | (cases hv; first | exact .inl ⟨_, rfl⟩ | exact .inr ⟨_, rfl⟩)
    rcases hu with ⟨id, rfl⟩ | ⟨T, rfl⟩
    · exact pe_callB hk hg hm hb (h W tk) hn.1 hn.2 hst hpl
    · exact pe_callTy hk hg hm hb (h W tk) hn.1 hn.2 hst hpl
  exact pe_imp key fun σ H Q ⟨g, env, s, hs, hl, h⟩ => TM.seq hs hl h fun vs H1 g1 zs s1 l1 hs1 hl1 rv h1 => ⟨g1, s1, zs, bx, _, sub, hs1, rv, h1⟩
end
end MP

/-! Methods of built-in classes; isinstance. -/
namespace MP
open PySem PySem.Spec PyProof.Rows L2
section
variable {X : Cx} {flds : Fl} {a b c o : Expr} {ma mb mc mo : Env → Store → Res PV} {pos apos cpos : Pos} {es : List Expr} {ms : Env → Store → Res (List PV)}
/-- the class, the name, the built-in's word -/
structure MthD (m : Mth) (T : String) (name : Str) (id : String) : Prop where
  pa : PlainAttrs T
  slot : Slot T name id
  ty : typeOf (.builtin id) = pure (.type "method_descriptor")
def mthT : Mth → Option (String × Str × String)
  | .append => some ("list", "append", "list.append")
  | .pop0 => some ("list", "pop", "list.pop")
  | .pop1 => some ("list", "pop", "list.pop")
  | .join => some ("str", "join", "str.join")
  | .split1 => some ("str", "split", "str.split")
  | .sindex => some ("str", "index", "str.index")
  | _ => none
theorem mth_d {m : Mth} {T : String} {name : Str} {id : String} (h : mthT m = some (T, name, id)) : MthD m T name id := by
  cases m <;> simp only [mthT] at h <;> cases h
  · exact ⟨PySem.F.plainAttrs_list, PySem.F.slot_list_append, PySem.F.type_list_append⟩
  · exact ⟨PySem.F.plainAttrs_list, PySem.F.slot_list_pop, PySem.F.type_list_pop⟩
  · exact ⟨PySem.F.plainAttrs_list, PySem.F.slot_list_pop, PySem.F.type_list_pop⟩
  · exact ⟨PySem.F.plainAttrs_str, PySem.F.slot_str_join, PySem.F.type_str_join⟩
  · exact ⟨PySem.F.plainAttrs_str, PySem.F.slot_str_split, PySem.F.type_str_split⟩
  · exact ⟨PySem.F.plainAttrs_str, PySem.F.slot_str_index, PySem.F.type_str_index⟩
theorem recv_ty {m : Mth} {T : String} {name : Str} {id : String} {g : Gh} {H : Hp} {s : Store} {v : V} {x : PV} (h : mthT m = some (T, name, id)) (hs : RSx X flds g H s) (hv : RVx X flds g v x) (e : recv m s x = true) : tyV X.K T v H := by
  have lst : recv .append s x = true → tyV X.K "list" v H := fun e => by
    unfold recv at e
    dsimp only at e
    split at e
    · cases hv with
      | obj hn =>
        obtain ⟨o, e1, ro⟩ := hs.there hn
        rw [e1] at e
        cases o with
        | lst xs =>
          obtain ⟨vs, e2, _⟩ := ro
          exact .inl ⟨rfl, vs, .inl (.inl e2)⟩
        | dct _ => cases e
    · cases hv with
      | lst q r => exact .inl ⟨rfl, _, .inl (.inl (hs.fr _ _ q))⟩
    · cases e
  have str : recv .join s x = true → tyV X.K "str" v H := fun e => by
    unfold recv at e
    dsimp only at e
    split at e
    · cases hv
      rfl
    · cases e
  cases m <;> simp only [mthT] at h <;> cases h
  · exact lst e
  · exact lst e
  · exact lst e
  · exact str e
  · exact str e
  · exact str e
theorem no_arg {g : Gh} {vs : List V} (r : RVsx X flds g vs []) : vs = [] := by
  cases r
  rfl
def rMth (X : Cx) (flds : Fl) (m : Mth) : V → List V → Hp → VK → Prop := fun v vs H Q => ∃ (g : Gh) (s : Store) (x : PV) (xs : List PV) (W : XK),
  RSx X flds g H s ∧ RVx X flds g v x ∧ RVsx X flds g vs xs ∧ Gd X flds (RVx X flds) g Q W (mthEnd (mthSem m s x xs))
theorem lsts_of {g : Gh} : ∀ (l : List Str), RVsx X flds g (l.map V.str) (l.map PV.str)
  | [] => .nil
  | z :: l => .cons (.str z) (lsts_of l)
theorem mth_ok {m : Mth} {T : String} {name : Str} {id : String} (h : mthT m = some (T, name, id)) : MtR X id (rMth X flds m) := by
  intro pins s₀ σ H v vs u us Q I rx rv hh
  obtain ⟨g, s, x, xs, W, hs, hx, hxs, hg⟩ := hh
  unfold mthSem at hg
  split at hg <;> simp only [mthT] at h <;> first | cases h; done | skip
  · cases h
    cases hx with
    | obj hn =>
    obtain ⟨w, rfl, r1⟩ := one_arg hxs
    obtain ⟨o, e1, ro⟩ := hs.there hn
    rw [e1] at hg
    cases o with
    | dct _ => exact hg.elim
    | lst ys =>
      obtain ⟨ws, e2, r2⟩ := ro
      dsimp only at hg
      split at hg
      · rename_i hz
        refine mt_append pins s₀ σ H _ _ u us Q I rx rv ⟨_, _, _, rfl, rfl, e2, by rw [r2.length]; exact hz, ?_⟩
        exact hg _ _ g Gh.le.rfl (hs.write hn ⟨_, upd_same, r2.append (.cons r1 .nil)⟩) .non
      · exact hg.elim
  · cases h
    cases hx with
    | obj hn =>
    have := no_arg hxs
    subst this
    obtain ⟨o, e1, ro⟩ := hs.there hn
    rw [e1] at hg
    cases o with
    | dct _ => exact hg.elim
    | lst ys =>
      obtain ⟨ws, e2, r2⟩ := ro
      dsimp only at hg
      cases e3 : ys[ys.length - 1]? with
      | none => rw [e3] at hg; exact hg.elim
      | some y =>
        rw [e3] at hg
        obtain ⟨w, e4, r3⟩ := r2.get e3
        refine mt_pop pins s₀ σ H _ _ u us Q I rx rv ⟨_, _, w, rfl, rfl, e2, by rw [r2.length]; exact e4, ?_⟩
        exact hg _ _ g Gh.le.rfl (hs.write hn ⟨_, upd_same, r2.dropLast⟩) r3
  · cases h
    cases hx with
    | obj hn =>
    obtain ⟨w, rfl, r1⟩ := one_arg hxs
    cases r1
    obtain ⟨o, e1, ro⟩ := hs.there hn
    rw [e1] at hg
    cases o with
    | dct _ => exact hg.elim
    | lst ys =>
      obtain ⟨ws, e2, r2⟩ := ro
      dsimp only at hg
      split at hg
      · rename_i hb
        cases e3 : ixN ys.length _ with
        | none => rw [e3] at hg; exact hg.elim
        | some k =>
          rw [e3, Option.bind_some] at hg
          cases e4 : ys[k]? with
          | none => rw [e4] at hg; exact hg.elim
          | some y =>
            rw [e4] at hg
            obtain ⟨w, e5, r3⟩ := r2.get e4
            refine mt_popAt pins s₀ σ H _ _ u us Q I rx rv ⟨_, _, _, k, w, rfl, rfl, e2, hb.1, hb.2, by rw [r2.length]; exact (ixN_seq e3).1, e5, ?_⟩
            exact hg _ _ g Gh.le.rfl (hs.write hn ⟨_, upd_same, r2.erase _⟩) r3
      · exact hg.elim
  · cases h
    cases hx
    obtain ⟨w, rfl, r1⟩ := one_arg hxs
    split at hg
    · rename_i e1
      split at hg
      · rename_i e2
        split at hg
        · rename_i hz
          obtain ⟨p, ws, rfl, q, r2⟩ := asSeq_ok hs r1 e1
          rw [strs_ok r2 e2] at q
          exact mt_join pins s₀ σ H _ _ u us Q I rx rv ⟨_, _, _, rfl, rfl, q, hz, hg _ _ g Gh.le.rfl hs (.str _)⟩
        · exact hg.elim
      · exact hg.elim
    · exact hg.elim
  · cases h
    cases hx
    obtain ⟨w, rfl, r1⟩ := one_arg hxs
    cases r1
    split at hg
    · rename_i e1
      exact mt_sindex pins s₀ σ H _ _ u us Q I rx rv ⟨_, _, _, _, rfl, rfl, e1, hg _ _ g Gh.le.rfl hs (.int _)⟩
    · exact hg.elim
  · cases h
    cases hx
    obtain ⟨w, rfl, r1⟩ := one_arg hxs
    cases r1
    split at hg
    · rename_i hz
      refine mt_split pins s₀ σ H _ _ u us Q I rx rv ⟨_, _, rfl, rfl, by simpa using hz.1, hz.2, ?_⟩
      exact mkNew (bx := false) (W := W) hs (lsts_of _) hg
    · exact hg.elim
  all_goals exact hg.elim
theorem sx_meth {m : Mth} {T : String} {name : Str} {id : String} (h : mthT m = some (T, name, id)) (hbase : attributeBase o name X.env (eval o X.env) = eval o X.env) (hline : (apos.endLine == cpos.line) = true)
    (hfew : ((backTo cpos (starEach (a :: es) X.env)).all (fun x => !x.1) && (backToKw cpos (keywordEach [] X.env)).all (fun x => x.1.isSome)
      && decide ((a :: es).length + ([] : List Keyword).length + (if ([] : List Keyword).isEmpty then 0 else 1) < 30)) = true)
    (hst : starEach (a :: es) X.env = (false, eval a X.env) :: starEach es X.env) (hpl : (backTo cpos (starEach es X.env)).any (·.1) = false) (ho : PEv X flds o mo) (ha : PAv X flds (a :: es) ms) :
    PEv X flds (.Call (.Attribute o name apos) (a :: es) [] cpos) fun env s => (mo env s).bind fun x s => if recv m s x then (ms env s).bind fun xs s => mthEnd (mthSem m s x xs) else .stk :=
  fun W tk => pe_imp (pe_bm (mth_d h).pa (mth_d h).slot (mth_d h).ty (mth_ok (flds := flds) h) (ho W tk) (ha W tk) hbase hfew hline hst hpl) fun σ H Q ⟨g, env, s, hs, hl, hh⟩ =>
    TM.seq hs hl hh fun v H1 g1 z s1 l1 hs1 hl1 rv h1 => by
      split at h1
      · rename_i e
        exact ⟨recv_ty h hs1 rv e, TM.seq hs1 hl1 h1 fun vs H2 g2 zs s2 l2 hs2 hl2 rvs h2 => ⟨g2, s2, z, zs, _, hs2, rv.mono l2, rvs, h2⟩⟩
      · exact h1.elim
theorem sx_meth0 {m : Mth} {T : String} {name : Str} {id : String} (h : mthT m = some (T, name, id)) (hbase : attributeBase o name X.env (eval o X.env) = eval o X.env) (hline : (apos.endLine == cpos.line) = true) (ho : PEv X flds o mo) :
    PEv X flds (.Call (.Attribute o name apos) [] [] cpos) fun env s => (mo env s).bind fun x s => if recv m s x then mthEnd (mthSem m s x []) else .stk :=
  fun W tk => pe_imp (pe_bm0 (mth_d h).pa (mth_d h).slot (mth_d h).ty (mth_ok (flds := flds) h) (ho W tk) hbase hline) fun σ H Q ⟨g, env, s, hs, hl, hh⟩ =>
    TM.seq hs hl hh fun v H1 g1 z s1 l1 hs1 hl1 rv h1 => by
      split at h1
      · rename_i e
        exact ⟨recv_ty h hs1 rv e, ⟨g1, s1, z, [], _, hs1, rv, .nil, h1⟩⟩
      · exact h1.elim

/-! ### isinstance -/
theorem boot_isi : bootBuiltins "isinstance" = some (.builtin "isinstance") := by decide +kernel
def tys : List String := ["NoneType", "bool", "int", "str", "list", "tuple", "dict"]
def tyGives (t T : String) : Bool := decide (t = T) || (decide (t = "bool") && decide (T = "int"))
theorem kit_tys : ∀ t ∈ tys, ∀ T ∈ tys, kitB t T = some (tyGives t T) := by decide +kernel
/-- the class of a value that is no error -/
theorem ty_of {g : Gh} {H : Hp} {s : Store} {v : V} {x : PV} (hs : RSx X flds g H s) (hv : RVx X flds g v x) (e : (isTy s "" x).isSome = true) :
    ∃ t, t ∈ tys ∧ TyX X.K H v (.type t) ∧ ∀ T, isTy s T x = some (tyGives t T) := by
  have lk : ∀ {a : Addr} {vs : List V}, SqL X.K H a vs → TyX X.K H (.ref a) (.type "list") := fun q => by
    rcases q with (q | ⟨o, q⟩) | ⟨o, its, n, h1, h2, _⟩
    · exact .base (.lst q)
    · exact .base (.frz q)
    · exact .kList h1 h2
  have tk : ∀ {a : Addr} {vs : List V}, SqT X.K H a vs → TyX X.K H (.ref a) (.type "tuple") := fun q => by
    rcases q with (q | ⟨o, q⟩) | ⟨o, its, n, h1, h2, _⟩
    · exact .base (.tup q)
    · exact .fTuple q
    · exact .kTuple h1 h2
  have fin : ∀ {t : String} (T : String), t ≠ "bool" → some (decide (T = t)) = some (tyGives t T) := fun {t} T n => by
    unfold tyGives
    simp [n, eq_comm]
  cases hv <;> simp only [isTy] at e
  · exact ⟨"NoneType", by decide, .base .non, fun T => fin T (by decide)⟩
  · refine ⟨"bool", by decide, .base (.bl _), fun T => ?_⟩
    unfold isTy tyGives
    simp [eq_comm]
  · exact ⟨"int", by decide, .base (.int _), fun T => fin T (by decide)⟩
  · exact ⟨"str", by decide, .base (.str _), fun T => fin T (by decide)⟩
  · rename_i q r
    exact ⟨"tuple", by decide, tk (sqt_heap hs q), fun T => fin T (by decide)⟩
  · rename_i q r
    exact ⟨"list", by decide, .base (.lst (hs.fr _ _ q)), fun T => fin T (by decide)⟩
  · rename_i q r
    exact ⟨"list", by decide, lk (sql_heap hs q), fun T => fin T (by decide)⟩
  · rename_i hn
    obtain ⟨o, e1, ro⟩ := hs.there hn
    cases o with
    | lst xs =>
      obtain ⟨vs, e2, _⟩ := ro
      refine ⟨"list", by decide, .base (.lst e2), fun T => ?_⟩
      simp only [isTy, e1]
      exact fin T (by decide)
    | dct xs =>
      obtain ⟨vs, e2, _⟩ := ro
      refine ⟨"dict", by decide, .base (.dK e2), fun T => ?_⟩
      simp only [isTy, e1]
      exact fin T (by decide)
  all_goals (simp at e)
/-- what is known of the errors' classes -/
structure XF (K : PySem.W.Frag) (mg : Str → Option Value) (sub : Str → Str → Option Bool) : Prop where
  own : ∀ d c b, sub d c = some b → ∃ D C, mg d = some (.ref D) ∧ mg c = some (.ref C) ∧ ExcC K D ∧ PySem.W.kitOne K (.ref D) (.ref C) = some b ∧ PySem.W.exmOne K (.ref D) (.ref C) = some b ∧ (∀ t ∈ tys, PySem.W.kitOne K (.type t) (.ref C) = some false)
theorem exc_isi {D C a : Addr} {b : Bool} {pins : List (Addr × Obj)} {s : Shared} {σ : L2.St} {H : Hp} {Q : Value → Shared → Prop} {A : Around} {E : Value → Shared → Prop} (I : Inv X pins σ H s) (ha : H a = some (ExH (.ref D) none a)) (c : ExcC X.K D)
    (e : PySem.W.kitOne X.K (.ref D) (.ref C) = some b) (h : ∀ tk, Q (.bool b) { s with toks := tk }) : wpAny (model X.prog X.w) A (call (.builtin "isinstance") [.ref a, .ref C]) Q E s := by
  obtain ⟨⟨oe, vs, hget, hz, hd⟩, _, _⟩ := (show ObjOk X.prog X.w H s.heap a (ExH (.ref D) none a) from I.hok a _ ha)
  have J : PySem.W.InstAt s.heap a oe D none := by
    obtain ⟨oc, od, oda, osl⟩ := oe
    obtain ⟨h1, h2⟩ := hz
    dsimp only at h1 h2 hd
    subst h1 h2 hd
    exact ⟨hget, rfl, rfl, trivial⟩
  exact PySem.W.kia_one (PySem.W.handS_kitx_exc c.hg c.hk c.hs c.hd c.ha c.hn c.ht c.hm) I.kIn J e (fun z => nomatch z) h
def rIsT (X : Cx) (flds : Fl) (T : String) : List V → Hp → VK → Prop := fun vs H Q => ∃ (g : Gh) (s : Store) (x : PV) (v : V) (b : Bool),
  vs = [v, .ty T] ∧ RSx X flds g H s ∧ RVx X flds g v x ∧ isTy s T x = some b ∧ Q (.bl b) H
theorem isTy_some {s : Store} {x : PV} {T : String} {b : Bool} (e : isTy s T x = some b) : (isTy s "" x).isSome = true := by
  cases x <;> simp only [isTy] at e ⊢ <;> first | rfl | cases e; done | skip
  split at e <;> first | rfl | cases e
theorem isT_ok {T : String} (hT : T ∈ tys) : CallR X (.builtin "isinstance") (rIsT X flds T) := by
  intro pins s₀ σ H vs us Q I r hh
  obtain ⟨g, s, x, v, b, rfl, hs, hv, e, q⟩ := hh
  obtain ⟨t, ht, ty, et⟩ := ty_of hs hv (isTy_some e)
  rw [et] at e
  cases e
  exact call_isi pins s₀ σ H _ us Q I r ⟨v, .ty T, _, _, _, rfl, .ty T, ty, kit_ty (kit_tys t ht T hT), q⟩
theorem sx_isT {T : String} {x : Str} {p p2 : Pos} {bx : Bool} {sub : Str → Str → Option Bool} (hg : Gl X "isinstance") (hm : X.mg "isinstance" = none) (hT : T ∈ tys) (hgx : Gl X x) (hmx : X.mg x = none) (hv : bootBuiltins x = some (.type T)) (hn : x ≠ "__name__") (hdb : (x == ("__debug__" : Str)) = false)
    (hst : starEach [a, .Name x p2] X.env = (false, eval a X.env) :: starEach [.Name x p2] X.env) (hst2 : starEach [.Name x p2] X.env = (false, eval (.Name x p2) X.env) :: starEach [] X.env) (hpl : (backTo pos (starEach [.Name x p2] X.env)).any (·.1) = false) (ha : PEv X flds a ma) :
    PEv X flds (.Call (.Name "isinstance" p) [a, .Name x p2] [] pos) fun env s => (ma env s).bind fun x s => mkO bx (bltSem sub (.isT T) s [x]) s := by
  intro W tk
  have hp2 : PE X (.Name x p2) (tC (.ty T)) := pe_bltn hgx hmx hv (show RelV (.ty T) (.type T) from rfl) hn hdb
  have key := pe_callB (p := p) (pos := pos) (isT_ok (flds := flds) hT) hg hm boot_isi (pa_cons (ha W tk) (pa_cons hp2 pa_nil hst2) hst) (by decide) (by decide) hst hpl
  refine pe_imp key fun σ H Q ⟨g, env, s, hs, hl, h⟩ => ?_
  refine TM.seq hs hl h fun v H1 g1 z s1 l1 hs1 hl1 rv h1 => ?_
  have h1 : Gd X flds (RVx X flds) g1 Q (fun c d H' => W c d σ H') (mkO bx ((isTy s1 T z).map .bl) s1) := h1
  cases e : isTy s1 T z with
  | none => rw [e] at h1; exact h1.elim
  | some b =>
    rw [e] at h1
    exact ⟨g1, s1, z, v, b, rfl, hs1, rv, e, mkV h1 (by intro _ e; cases e) _ _ _ Gh.le.rfl hs1 (.bl _)⟩
def rIsC (X : Cx) (flds : Fl) (sub : Str → Str → Option Bool) (c : Str) : List V → Hp → VK → Prop := fun vs H Q => ∃ (g : Gh) (s : Store) (x : PV) (v : V) (C : Addr) (b : Bool),
  vs = [v, .ref C] ∧ X.mg c = some (.ref C) ∧ RSx X flds g H s ∧ RVx X flds g v x ∧ isCl sub s c x = some b ∧ Q (.bl b) H
theorem isC_ok {c : Str} {sub : Str → Str → Option Bool} (F : XF X.K X.mg sub) : CallR X (.builtin "isinstance") (rIsC X flds sub c) := by
  intro pins s₀ σ H vs us Q I r hh
  obtain ⟨g, s, x, v, C, b, rfl, hC, hs, hv, e, q⟩ := hh
  have plain : (sub c c).map (fun _ => false) = some b → (isTy s "" x).isSome = true → wpAny (model X.prog X.w) X.A (call (.builtin "isinstance") us) (fun v s1 => ∃ x H1, Inv X pins σ H1 s1 ∧ RelV x v ∧ Q x H1) X.xe s₀ := fun e1 e2 => by
    obtain ⟨b', e3, e4⟩ := Option.map_eq_some_iff.mp e1
    subst e4
    obtain ⟨_, C', _, h2, _, _, _, h3⟩ := F.own c c b' e3
    rw [hC] at h2
    cases h2
    obtain ⟨t, ht, ty, _⟩ := ty_of hs hv e2
    exact call_isi pins s₀ σ H _ us Q I r ⟨v, .ref C, _, _, _, rfl, .own C, ty, h3 t ht, q⟩
  cases x <;> simp only [isCl] at e <;> first | exact plain e rfl | skip
  all_goals first | cases e; done | skip
  · split at e
    · rename_i hn
      refine plain e ?_
      simp only [isTy]
      have : s[‹Nat›]? = some s[‹Nat›] := List.getElem?_eq_getElem hn
      rw [this]
      cases s[‹Nat›] <;> rfl
    · cases e
  · rename_i d ws
    cases ws with
    | cons _ _ => cases e
    | nil =>
      have hex : ∃ a D, v = .ref a ∧ X.mg d = some (.ref D) ∧ g.F a = some (ExH (.ref D) none a) := by
        cases hv with
        | exc0 h1 h2 h3 => exact ⟨_, _, rfl, h1, h3⟩
        | exc1 h1 h2 h3 h4 h5 h6 r7 =>
          exfalso
          cases r7
          simp at h6
          exact h2 (List.length_eq_zero_iff.mp h6.symm)
      obtain ⟨a, D, rfl, hD, hF⟩ := hex
      obtain ⟨D', C', h1, h2, h3, h4, _⟩ := F.own d c b e
      rw [hD] at h1
      cases h1
      rw [hC] at h2
      cases h2
      obtain ⟨u1, u2, rfl, r1, r2⟩ := vals2 r
      cases r1
      cases r2
      exact exc_isi I (hs.fr _ _ hF) h3 h4 fun tk => ⟨.bl b, H, I.tok tk, rfl, q⟩
theorem sx_isC {c : Str} {C : Addr} {p p2 : Pos} {bx : Bool} {sub : Str → Str → Option Bool} (F : XF X.K X.mg sub) (hg : Gl X "isinstance") (hm : X.mg "isinstance" = none) (hgx : Gl X c) (hmx : X.mg c = some (.ref C)) (hdb : (c == ("__debug__" : Str)) = false)
    (hst : starEach [a, .Name c p2] X.env = (false, eval a X.env) :: starEach [.Name c p2] X.env) (hst2 : starEach [.Name c p2] X.env = (false, eval (.Name c p2) X.env) :: starEach [] X.env) (hpl : (backTo pos (starEach [.Name c p2] X.env)).any (·.1) = false) (ha : PEv X flds a ma) :
    PEv X flds (.Call (.Name "isinstance" p) [a, .Name c p2] [] pos) fun env s => (ma env s).bind fun x s => mkO bx (bltSem sub (.isC c) s [x]) s := by
  intro W tk
  have hp2 : PE X (.Name c p2) (tC (.ref C)) := pe_glob hgx hmx (show RelV (.ref C) (.ref C) from rfl) hdb
  have key := pe_callB (p := p) (pos := pos) (isC_ok (flds := flds) (c := c) F) hg hm boot_isi (pa_cons (ha W tk) (pa_cons hp2 pa_nil hst2) hst) (by decide) (by decide) hst hpl
  refine pe_imp key fun σ H Q ⟨g, env, s, hs, hl, h⟩ => ?_
  refine TM.seq hs hl h fun v H1 g1 z s1 l1 hs1 hl1 rv h1 => ?_
  have h1 : Gd X flds (RVx X flds) g1 Q (fun c d H' => W c d σ H') (mkO bx ((isCl sub s1 c z).map .bl) s1) := h1
  cases e : isCl sub s1 c z with
  | none => rw [e] at h1; exact h1.elim
  | some b =>
    rw [e] at h1
    exact ⟨g1, s1, z, v, C, b, rfl, hmx, hs1, rv, e, mkV h1 (by intro _ e; cases e) _ _ _ Gh.le.rfl hs1 (.bl _)⟩
end
end MP

/-! What is walked. -/
namespace MP
open PySem PySem.Spec PyProof.Rows L2
/-- an iterator gives these items, as long as what it reads stays -/
structure WalkV (X : Cx) (flds : Fl) (g : Gh) (J : It) (w : ItV) : Prop where
  go : ∀ g' H s i, g.sub g' → RSx X flds g' H s → liveOk s w.live = true → i < w.items.length → J.go i H
  stop : ∀ g' H s, g.sub g' → RSx X flds g' H s → liveOk s w.live = true → J.stop w.items.length H
  yld : ∀ g' H s i x H', g.sub g' → RSx X flds g' H s → liveOk s w.live = true → i < w.items.length → J.yld i H x H' → ∃ g'', g'.le g'' ∧ RSx X flds g'' H' s ∧ ∃ p, w.items[i]? = some p ∧ RVx X flds g'' x p
theorem Gh.sub.rfl {g : Gh} : g.sub g := ⟨fun _ _ h => h, List.prefix_refl _⟩
theorem Gh.sub.trans {g g1 g2 : Gh} (a : g.sub g1) (b : g1.sub g2) : g.sub g2 := ⟨fun c o h => b.F c o (a.F c o h), a.μ.trans b.μ⟩
def PIv (X : Cx) (flds : Fl) (tg it : Expr) (m : Env → Store → Res ItV) : Prop := ∀ W, Takes X W → PI X tg it (TM X flds (WalkV X flds) W m)
section
variable {X : Cx} {flds : Fl} {g : Gh} {H : Hp} {s : Store}
theorem pi_imp {tg e : Expr} {t t' : TI} (h : PI X tg e t) (i : ∀ σ H R, t' σ H R → t σ H R) : PI X tg e t' := ⟨fun pins s σ H R I q => h.run pins s σ H R I (i _ _ _ q)⟩
/-- a row that stays -/
def Src (X : Cx) (flds : Fl) (g : Gh) (isT : Bool) (a : Addr) (xs : List PV) (live : List (Nat × List PV)) : Prop :=
  ∀ g' H s, g.sub g' → RSx X flds g' H s → liveOk s live = true → ∃ vs, (if isT then SqT X.K H a vs else SqL X.K H a vs) ∧ RVsx X flds g' vs xs
theorem src_of {v : V} {x : PV} {xs : List PV} (hv : RVx X flds g v x) (e : asSeq s x = some xs) : ∃ a, v = .ref a ∧ Src X flds g (isTup x) a xs (liveOf x xs) := by
  cases hv <;> simp only [asSeq] at e <;> first | cases e; done | skip
  · cases e
    rename_i h r
    exact ⟨_, rfl, fun g' H s l hs _ => ⟨_, sqt_mono (fun a o e => hs.fr _ _ (l.F _ _ e)) h, r.msub l⟩⟩
  · cases e
    rename_i h r
    exact ⟨_, rfl, fun g' H s l hs _ => ⟨_, .inl (.inl (hs.fr _ _ (l.F _ _ h))), r.msub l⟩⟩
  · cases e
    rename_i h r
    exact ⟨_, rfl, fun g' H s l hs _ => ⟨_, sql_mono (fun a o e => hs.fr _ _ (l.F _ _ e)) h, r.msub l⟩⟩
  · rename_i a n h
    refine ⟨_, rfl, fun g' H s' l hs lv => ?_⟩
    obtain ⟨o, e1, ro⟩ := hs.there (pre_get l.μ h)
    simp only [liveOf, liveOk, List.all_cons, List.all_nil, Bool.and_true] at lv
    rw [e1] at lv
    cases o with
    | dct _ => cases lv
    | lst ys =>
      have := PV.beqs_eq _ _ lv
      subst this
      obtain ⟨vs, e2, r⟩ := ro
      exact ⟨vs, .inl (.inl e2), r⟩
theorem live_now {x : PV} {xs : List PV} (e : asSeq s x = some xs) : liveOk s (liveOf x xs) = true := by
  cases x <;> simp only [asSeq] at e <;> first | rfl | skip
  simp only [liveOf, liveOk, List.all_cons, List.all_nil, Bool.and_true]
  split at e
  · rename_i h
    cases e
    first | exact PV.beqs_rfl _ | (rw [h]; exact PV.beqs_rfl _)
  · cases e
theorem walkL {a : Addr} {xs : List PV} {live : List (Nat × List PV)} (S : Src X flds g false a xs live) : WalkV X flds g (Itl X.K a) ⟨xs, live⟩ where
  go := fun g' H s i l hs lv hi => by
    obtain ⟨vs, q, r⟩ := S g' H s l hs lv
    have hi : i < vs.length := by rw [r.length]; exact hi
    exact ⟨vs, vs[i], q, List.getElem?_eq_getElem hi⟩
  stop := fun g' H s l hs lv => by
    obtain ⟨vs, q, r⟩ := S g' H s l hs lv
    exact ⟨vs, q, Nat.le_of_eq r.length⟩
  yld := fun g' H s i x H' l hs lv hi y => by
    obtain ⟨vs, q, r⟩ := S g' H s l hs lv
    obtain ⟨rfl, y⟩ := y
    obtain ⟨p, e, rp⟩ := r.getV (y vs q)
    exact ⟨g', Gh.le.rfl, hs, p, e, rp⟩
theorem walkT {a : Addr} {xs : List PV} {live : List (Nat × List PV)} (S : Src X flds g true a xs live) : WalkV X flds g (Itt X.K a) ⟨xs, live⟩ where
  go := fun g' H s i l hs lv hi => by
    obtain ⟨vs, q, r⟩ := S g' H s l hs lv
    have hi : i < vs.length := by rw [r.length]; exact hi
    exact ⟨vs, vs[i], q, List.getElem?_eq_getElem hi⟩
  stop := fun g' H s l hs lv => by
    obtain ⟨vs, q, r⟩ := S g' H s l hs lv
    exact ⟨vs, q, Nat.le_of_eq r.length⟩
  yld := fun g' H s i x H' l hs lv hi y => by
    obtain ⟨vs, q, r⟩ := S g' H s l hs lv
    obtain ⟨rfl, y⟩ := y
    obtain ⟨p, e, rp⟩ := r.getV (y vs q)
    exact ⟨g', Gh.le.rfl, hs, p, e, rp⟩
theorem strItems_len {z : Str} : (strItems z).length = z.cps.size := by
  unfold strItems
  rw [List.length_map, Array.length_toList]
theorem strItems_get {z : Str} {i c : Nat} (h : z.cps[i]? = some c) : (strItems z)[i]? = some (.str ⟨#[c]⟩) := by
  unfold strItems
  rw [List.getElem?_map, Array.getElem?_toList, h]
  rfl
theorem walkS {z : Str} : WalkV X flds g (Its z) ⟨strItems z, []⟩ where
  go := fun g' H s i l hs lv hi => by
    have : i < (strItems z).length := hi
    rw [strItems_len] at this
    exact this
  stop := fun g' H s l hs lv => by
    show z.cps.size ≤ (strItems z).length
    rw [strItems_len]
    exact Nat.le_refl _
  yld := fun g' H s i x H' l hs lv hi y => by
    obtain ⟨rfl, c, e, rfl⟩ := y
    exact ⟨g', Gh.le.rfl, hs, _, strItems_get e, .str _⟩
/-- one value just come, walked -/
def iAny (K : PySem.W.Frag) (te : TE) : TI := fun σ H R => te σ H fun x H1 => (∃ a xs, x = .ref a ∧ SqL K H1 a xs ∧ R (Itl K a) H1) ∨ (∃ a xs, x = .ref a ∧ SqT K H1 a xs ∧ R (Itt K a) H1) ∨ ∃ z, x = .str z ∧ R (Its z) H1
theorem pi_any {tg l : Expr} {tl : TE} (hl : PE X l tl) : PI X tg l (iAny X.K tl) := by
  refine ⟨fun pins s σ H R I h => ?_⟩
  refine thn (hl.run pins s σ H _ I h) fun v s1 ⟨x, H1, I1, r1, q1⟩ => ?_
  rcases q1 with ⟨a, xs, e, hq, q⟩ | ⟨a, xs, e, hq, q⟩ | ⟨z, e, q⟩
  · subst e
    cases r1
    obtain ⟨its, rv, p, hz⟩ := I1.list hq
    refine wpAny_pyIter_list p.isList ?_
    exact pi_one (tk := s1.toks) I1 _ (turn_list a _) ⟨_, Heap.get?_push_size _ rfl, rfl, rfl⟩ q
  · subst e
    cases r1
    obtain ⟨its, rv, p, hz⟩ := I1.tuple hq
    refine wpAny_pyIter_tuple (show s1.heap.IsTuple a its.toArray from p) ?_
    exact pi_one (tk := s1.toks) I1 _ (turn_tuple a _) ⟨_, Heap.get?_push_size _ rfl, rfl, rfl⟩ q
  · subst e
    obtain ⟨t, rfl⟩ := r1
    cases ha : z.cps.all (· < 128)
    · exact wpAny_pyIter_wide ha (pi_one (tk := s1.toks) I1 _ (turn_str _ z t "str_iterator" (.inr rfl)) ⟨_, Heap.get?_push_size _ rfl, rfl, rfl⟩ q)
    · exact wpAny_pyIter_ascii ha (pi_one (tk := s1.toks) I1 _ (turn_str _ z t "str_ascii_iterator" (.inl rfl)) ⟨_, Heap.get?_push_size _ rfl, rfl, rfl⟩ q)
variable {a b c tg : Expr} {ma mb mc : Env → Store → Res PV} {pos p : Pos}
theorem sx_walk (ha : PEv X flds a ma) : PIv X flds tg a fun env s => (ma env s).bind fun v s => match v with
      | .str z => .ok ⟨strItems z, []⟩ s
      | v => match asSeq s v with | some xs => .ok ⟨xs, liveOf v xs⟩ s | none => .stk :=
  fun W tk => pi_imp (pi_any (ha W tk)) fun σ H R ⟨g, env, s, hs, hl, h⟩ => TM.seq hs hl h fun v H1 g1 z s1 l1 hs1 hl1 rv h1 => by
    have row : ∀ xs, asSeq s1 z = some xs → Gd X flds (WalkV X flds) g1 R (fun c d H' => W c d σ H') (.ok ⟨xs, liveOf z xs⟩ s1) → (∃ a xs, v = .ref a ∧ SqL X.K H1 a xs ∧ R (Itl X.K a) H1) ∨ (∃ a xs, v = .ref a ∧ SqT X.K H1 a xs ∧ R (Itt X.K a) H1) ∨ ∃ z, v = .str z ∧ R (Its z) H1 := fun xs e hh => by
      obtain ⟨a, rfl, S⟩ := src_of (flds := flds) rv e
      obtain ⟨vs, q, _⟩ := S g1 H1 s1 Gh.sub.rfl hs1 (live_now e)
      cases ht : isTup z with
      | false =>
        rw [ht] at S q
        exact .inl ⟨a, vs, rfl, q, hh _ _ g1 Gh.le.rfl hs1 (walkL S)⟩
      | true =>
        rw [ht] at S q
        exact .inr (.inl ⟨a, vs, rfl, q, hh _ _ g1 Gh.le.rfl hs1 (walkT S)⟩)
    split at h1
    · cases rv
      exact .inr (.inr ⟨_, rfl, h1 _ _ g1 Gh.le.rfl hs1 walkS⟩)
    · cases e : asSeq s1 z with
      | none => rw [e] at h1; exact h1.elim
      | some xs =>
        rw [e] at h1
        exact row xs e h1
/-! ### range -/
theorem intRange_len {i j : Int} : (intRange i j).length = (j - i).toNat := by
  unfold intRange
  rw [List.length_map, List.length_range]
theorem walkR {lo : Int} {n : Nat} : WalkV X flds g (Itr lo n) ⟨(List.range n).map fun (k : Nat) => .int (lo + (k : Int)), []⟩ where
  go := fun g' H s i l hs lv hi => by
    show i < n
    simpa using hi
  stop := fun g' H s l hs lv => by
    show n ≤ _
    simp
  yld := fun g' H s i x H' l hs lv hi y => by
    obtain ⟨rfl, rfl⟩ := y
    have hi : i < n := by simpa using hi
    exact ⟨g', Gh.le.rfl, hs, .int (lo + i), by simp [hi], .int _⟩
theorem walkRC {lo : Int} {n : Nat} : WalkV X flds g (Itc lo (-1) n) ⟨(List.range n).map fun (k : Nat) => .int (lo - (k : Int)), []⟩ where
  go := fun g' H s i l hs lv hi => by
    show i < n
    simpa using hi
  stop := fun g' H s l hs lv => by
    show n ≤ _
    simp
  yld := fun g' H s i x H' l hs lv hi y => by
    obtain ⟨rfl, rfl⟩ := y
    have hi : i < n := by simpa using hi
    have e : lo + (i : Nat) * (-1 : Int) = lo - (i : Int) := by omega
    exact ⟨g', Gh.le.rfl, hs, .int (lo - i), by simp [hi], by rw [e]; exact .int _⟩
theorem small62_ok {i : Int} (h : small62 i = true) : -(2 ^ 62) ≤ i ∧ i < 2 ^ 62 := by
  unfold small62 at h
  exact of_decide_eq_true h
theorem sx_rng1 (hg : Gl X "range") (hm : X.mg "range" = none) (h1 : starEach [a] X.env = (false, eval a X.env) :: starEach [] X.env) (h1' : starEach [a] X.env = [(false, eval a X.env)]) (ha : PEv X flds a ma) :
    PIv X flds tg (.Call (.Name "range" p) [a] [] pos) fun env s => (ma env s).bind fun x s => match x with
      | .int j => if small62 j then .ok ⟨intRange 0 j, []⟩ s else .stk
      | _ => .stk :=
  fun W tk => pi_imp (pi_range1 hg hm (pa_cons (ha W tk) pa_nil h1) h1') fun σ H R ⟨g, env, s, hs, hl, h⟩ => TM.seq hs hl h fun v H1 g1 z s1 l1 hs1 hl1 rv h1 => by
    cases rv <;> first | exact h1.elim | skip
    dsimp only at h1
    split at h1
    · rename_i i hz
      obtain ⟨q1, q2⟩ := small62_ok hz
      refine ⟨_, rfl, q1, q2, h1 _ _ g1 Gh.le.rfl hs1 ?_⟩
      have := walkR (X := X) (flds := flds) (g := g1) (lo := 0) (n := i.toNat)
      unfold intRange
      rw [Int.sub_zero]
      exact this
    · exact h1.elim
theorem sx_rng2 (hg : Gl X "range") (hm : X.mg "range" = none) (h1 : starEach [a, b] X.env = (false, eval a X.env) :: starEach [b] X.env) (h2 : starEach [b] X.env = (false, eval b X.env) :: starEach [] X.env)
    (h1' : starEach [a, b] X.env = [(false, eval a X.env), (false, eval b X.env)]) (h2' : starEach [b] X.env = [(false, eval b X.env)]) (ha : PEv X flds a ma) (hb : PEv X flds b mb) :
    PIv X flds tg (.Call (.Name "range" p) [a, b] [] pos) fun env s => (ma env s).bind fun x s => (mb env s).bind fun y s => match x, y with
      | .int i, .int j => if small62 i && small62 j then .ok ⟨intRange i j, []⟩ s else .stk
      | _, _ => .stk :=
  fun W tk => pi_imp (pi_range2 hg hm (pa_cons (ha W tk) (pa_cons (hb W tk) pa_nil h2) h1) h1' h2') fun σ H R ⟨g, env, s, hs, hl, h⟩ => TM.seq hs hl h fun v H1 g1 z s1 l1 hs1 hl1 rv h1 =>
    TM.seq hs1 hl1 h1 fun v2 H2 g2 z2 s2 l2 hs2 hl2 rv2 h2 => by
    cases rv <;> cases rv2 <;> first | exact h2.elim | skip
    dsimp only at h2
    split at h2
    · rename_i i j hz
      rw [Bool.and_eq_true] at hz
      obtain ⟨q1, q2⟩ := small62_ok hz.1
      obtain ⟨q3, q4⟩ := small62_ok hz.2
      exact ⟨_, _, rfl, ⟨q1, q2, q3, q4⟩, h2 _ _ g2 Gh.le.rfl hs2 walkR⟩
    · exact h2.elim
theorem sx_rng3 (hg : Gl X "range") (hm : X.mg "range" = none) (h1 : starEach [a, b, c] X.env = (false, eval a X.env) :: starEach [b, c] X.env) (h2 : starEach [b, c] X.env = (false, eval b X.env) :: starEach [c] X.env)
    (h3 : starEach [c] X.env = (false, eval c X.env) :: starEach [] X.env) (hpl : (backTo pos (starEach [b, c] X.env)).any (·.1) = false) (ha : PEv X flds a ma) (hb : PEv X flds b mb) (hc : PEv X flds c mc) :
    PIv X flds tg (.Call (.Name "range" p) [a, b, c] [] pos) fun env s => (ma env s).bind fun x s => (mb env s).bind fun y s => (mc env s).bind fun z s => match x, y, z with
      | .int i, .int j, .int (-1) => if small62 i && small62 j then .ok ⟨(List.range (i - j).toNat).map fun (k : Nat) => .int (i - (k : Int)), []⟩ s else .stk
      | _, _, _ => .stk :=
  fun W tk => pi_imp (pi_range3 hg hm (pa_cons (ha W tk) (pa_cons (hb W tk) (pa_cons (hc W tk) pa_nil h3) h2) h1) h1 hpl) fun σ H R ⟨g, env, s, hs, hl, h⟩ => TM.seq hs hl h fun v H1 g1 z s1 l1 hs1 hl1 rv h1 =>
    TM.seq hs1 hl1 h1 fun v2 H2 g2 z2 s2 l2 hs2 hl2 rv2 h2 => TM.seq hs2 hl2 h2 fun v3 H3 g3 z3 s3 l3 hs3 hl3 rv3 h3 => by
    split at h3
    · cases rv; cases rv2; cases rv3
      split at h3
      · rename_i i j hz
        rw [Bool.and_eq_true] at hz
        obtain ⟨q1, q2⟩ := small62_ok hz.1
        obtain ⟨q3, q4⟩ := small62_ok hz.2
        exact ⟨_, _, _, _, rfl, RgC.neg q1 q2 q3 q4, h3 _ _ g3 Gh.le.rfl hs3 walkRC⟩
      · exact h3.elim
    · exact h3.elim
/-! ### enumerate -/
/-- signs of a text, in new pairs with their places -/
def Itse (z : Str) : It := ⟨fun i _ => i < z.cps.size, fun i H v H' => ∃ T c, v = .ref T ∧ H T = none ∧ H' = upd H T (.tup [.int (i : Nat), .str ⟨#[c]⟩]) ∧ z.cps[i]? = some c, fun i _ => z.cps.size = i⟩
theorem turn_enumS {P : Program} {w : World} {K : PySem.W.Frag} {elts : List Expr} {kk : Nat} {tpos : Pos} (x : Str) (t : Tok) (e it : Addr) :
    Turn P w K (.Tuple elts kk tpos) (Itse x) [e, it] e (fun i h => (∃ old, IsEnum h e it ((i : Nat) : Int) old) ∧ h.IsStrIter it (strIterType x) x t i ∧ e ≠ it) where
  mem := by simp
  obj := fun i h st b hb => by
    obtain ⟨⟨old, he⟩, ⟨o, ho, hc, hd⟩, _⟩ := st
    have e' : b = e ∨ b = it := by simpa using hb
    rcases e' with z | z
    · rw [z]; exact ⟨_, he, fun v q => nomatch q⟩
    · rw [z]; exact ⟨o, ho, fun v q => by rw [hd] at q; cases q⟩
  keep := fun i h h' st k => let ⟨⟨old, he⟩, ⟨o, ho, r⟩, hne⟩ := st; ⟨⟨old, k e (by simp) _ he⟩, ⟨o, k it (by simp) o ho, r⟩, hne⟩
  item := by
    intro X hP hw hK hc i pins s σ H E I hf st hg
    subst hP hw hK
    obtain ⟨⟨old, he⟩, hit, hne⟩ := st
    have hel : e < s.heap.objs.size := Heap.lt_size he
    have hil : it < s.heap.objs.size := by obtain ⟨_, q, _⟩ := hit; exact Heap.lt_size q
    have D : Draws X.prog X.w X.A.in1 it [it] x.cps.size (fun i v => ∃ c u, x.cps[i]? = some c ∧ v = .str ⟨#[c]⟩ u) (fun i h => h.IsStrIter it (strIterType x) x t i) := Draws.text (show X.A.in1.handled = none from I.ok.hd hc) it x t
    refine wpAny_pyNext_enum_itemD D he hit hg hne (by simpa using hne) fun u h' tk hP ho hit' hT hsz hk => ?_
    obtain ⟨c, tc, hxc, rfl⟩ := hP
    refine ⟨_, rfl, wpAny_letOwnedTupleGo_enum (s := { s with heap := h', toks := tk + 1 }) ho fun h'' he' sb => ?_⟩
    have hT2 : h''.get? s.heap.objs.size = some { cls := .type "tuple", data := .seq #[.int i tk, .str ⟨#[c]⟩ tc] } := (sb.2 _ (Nat.ne_of_gt hel)).trans hT
    have new : ObjOk X.prog X.w (upd H s.heap.objs.size (.tup [.int (i : Nat), .str ⟨#[c]⟩])) h'' s.heap.objs.size (.tup [.int (i : Nat), .str ⟨#[c]⟩]) :=
      ⟨by show 2 ≤ sizeLine; decide, [.int i tk, .str ⟨#[c]⟩ tc], .cons ⟨_, rfl⟩ (.cons ⟨_, rfl⟩ .nil), ⟨_, hT2, rfl, _, rfl⟩⟩
    have I1 : Inv X pins σ (upd H s.heap.objs.size (.tup [.int (i : Nat), .str ⟨#[c]⟩])) { s with heap := h'', toks := tk + 1 } :=
      I.turnedNew (ch := [e, it]) (fun b ob hb q => (sb.2 b (fun z => hb (by simp [z]))).trans (hk b ob (fun z => hb (by simp [z])) (fun z => hb (by simp [z])) q)) hf (Nat.le_refl _) new
    refine ⟨.ref s.heap.objs.size, _, I1, rfl, ⟨_, c, rfl, I.hok.fresh (Nat.le_refl _), rfl, hxc⟩, ⟨⟨.str ⟨#[c]⟩ tc, ?_⟩, ?_, hne⟩, fun b hb => ?_⟩
    · have e1 : ((i + 1 : Nat) : Int) = (i : Int) + 1 := by omega
      rw [e1]; exact he'
    · obtain ⟨o, ho2, r2⟩ := hit'
      exact ⟨o, (sb.2 it (Ne.symm hne)).trans ho2, r2⟩
    · have hb' : b < s.heap.objs.size := by
        have e' : b = e ∨ b = it := by simpa using hb
        rcases e' with z | z
        · rw [z]; exact hel
        · rw [z]; exact hil
      rw [upd_ne (Nat.ne_of_lt hb')]
      exact (hf b hb).1
  done := by
    intro X hP hw hK hc i pins s σ H E I hf st hg
    subst hP hw hK
    obtain ⟨⟨old, he⟩, hit, hne⟩ := st
    have D : Draws X.prog X.w X.A.in1 it [it] x.cps.size (fun i v => ∃ c u, x.cps[i]? = some c ∧ v = .str ⟨#[c]⟩ u) (fun i h => h.IsStrIter it (strIterType x) x t i) := Draws.text (show X.A.in1.handled = none from I.ok.hd hc) it x t
    have hg : x.cps.size = i := hg
    subst hg
    refine wpAny_pyNext_enum_endD D he hit fun h' eb => ⟨rfl, ?_⟩
    obtain ⟨f0, f1, f2, f3, f4, f5⟩ := hf it (by simp)
    exact I.turned (t' := s.toks) (fun b o hb q => eb b o hb q) f0 f1 f3 f4 f5
  self := fun A i s Q E st h => let ⟨⟨_, he⟩, _⟩ := st; wpAny_pyIter_enum he h
theorem walkEL {a : Addr} {xs : List PV} {live : List (Nat × List PV)} (S : Src X flds g false a xs live) : WalkV X flds g (Ite X.K a) ⟨xs.zipIdx.map fun p => .tup [.int (p.2 : Nat), p.1], live⟩ where
  go := fun g' H s i l hs lv hi => by
    obtain ⟨vs, q, r⟩ := S g' H s l hs lv
    have hi : i < vs.length := by rw [r.length]; simpa using hi
    exact ⟨vs, vs[i], q, List.getElem?_eq_getElem hi⟩
  stop := fun g' H s l hs lv => by
    obtain ⟨vs, q, r⟩ := S g' H s l hs lv
    exact ⟨vs, q, by simp [r.length]⟩
  yld := fun g' H s i x H' l hs lv hi y => by
    obtain ⟨vs, q, r⟩ := S g' H s l hs lv
    obtain ⟨T, x0, rfl, hT, rfl, y⟩ := y
    obtain ⟨p, e, rp⟩ := r.getV (y vs q)
    obtain ⟨l2, hs2⟩ := hs.frozen (.tup [.int (i : Nat), x0]) hT
    exact ⟨_, l2, hs2, .tup [.int (i : Nat), p], by simp [List.getElem?_zipIdx, e], .tup (.inl (.inl (by show upd g'.F T _ T = _; exact upd_same))) (.cons (.int _) (.cons (rp.mono l2) .nil))⟩
theorem walkET {a : Addr} {xs : List PV} {live : List (Nat × List PV)} (S : Src X flds g true a xs live) : WalkV X flds g (Itet X.K a) ⟨xs.zipIdx.map fun p => .tup [.int (p.2 : Nat), p.1], live⟩ where
  go := fun g' H s i l hs lv hi => by
    obtain ⟨vs, q, r⟩ := S g' H s l hs lv
    have hi : i < vs.length := by rw [r.length]; simpa using hi
    exact ⟨vs, vs[i], q, List.getElem?_eq_getElem hi⟩
  stop := fun g' H s l hs lv => by
    obtain ⟨vs, q, r⟩ := S g' H s l hs lv
    exact ⟨vs, q, by simp [r.length]⟩
  yld := fun g' H s i x H' l hs lv hi y => by
    obtain ⟨vs, q, r⟩ := S g' H s l hs lv
    obtain ⟨T, x0, rfl, hT, rfl, y⟩ := y
    obtain ⟨p, e, rp⟩ := r.getV (y vs q)
    obtain ⟨l2, hs2⟩ := hs.frozen (.tup [.int (i : Nat), x0]) hT
    exact ⟨_, l2, hs2, .tup [.int (i : Nat), p], by simp [List.getElem?_zipIdx, e], .tup (.inl (.inl (by show upd g'.F T _ T = _; exact upd_same))) (.cons (.int _) (.cons (rp.mono l2) .nil))⟩
theorem walkES {z : Str} : WalkV X flds g (Itse z) ⟨(strItems z).zipIdx.map fun p => .tup [.int (p.2 : Nat), p.1], []⟩ where
  go := fun g' H s i l hs lv hi => by
    have : i < ((strItems z).zipIdx.map fun p => PV.tup [.int (p.2 : Nat), p.1]).length := hi
    rw [List.length_map, List.length_zipIdx, strItems_len] at this
    exact this
  stop := fun g' H s l hs lv => by
    show z.cps.size = _
    rw [List.length_map, List.length_zipIdx, strItems_len]
  yld := fun g' H s i x H' l hs lv hi y => by
    obtain ⟨T, c, rfl, hT, rfl, y⟩ := y
    obtain ⟨l2, hs2⟩ := hs.frozen (.tup [.int (i : Nat), .str ⟨#[c]⟩]) hT
    exact ⟨_, l2, hs2, .tup [.int (i : Nat), .str ⟨#[c]⟩], by simp [List.getElem?_zipIdx, strItems_get y], .tup (.inl (.inl (by show upd g'.F T _ T = _; exact upd_same))) (.cons (.int _) (.cons (.str _) .nil))⟩
def iEnumA (K : PySem.W.Frag) (ta : TA) : TI := fun σ H R => ta σ H fun vs H1 => (∃ a xs, vs = [.ref a] ∧ SqL K H1 a xs ∧ R (Ite K a) H1) ∨ (∃ a xs, vs = [.ref a] ∧ SqT K H1 a xs ∧ R (Itet K a) H1) ∨ ∃ z, vs = [.str z] ∧ R (Itse z) H1
theorem pi_enumA {e : Expr} {ta : TA} {p pos tpos : Pos} {elts : List Expr} {kk : Nat} (hg : Gl X "enumerate") (hm : X.mg "enumerate" = none) (ha : PA X [e] ta) (hs : starEach [e] X.env = [(false, eval e X.env)]) :
    PI X (.Tuple elts kk tpos) (.Call (.Name "enumerate" p) [e] [] pos) (iEnumA X.K ta) := by
  refine ⟨fun pins s σ H R I h => ?_⟩
  refine Call_ (ld_blt I hg hm boot_enumerate (PyProof.Rows.callWith_type1 (thn (ha.run pos pins s σ H _ I h) fun us s1 ⟨vs, H1, I1, r1, q1⟩ => ?_) hs rfl))
  have fresh : ∀ b, b ∈ [s1.heap.objs.size + 1, s1.heap.objs.size] → FpOk X pins H1 b := fun b hb => by
    have e' : b = s1.heap.objs.size + 1 ∨ b = s1.heap.objs.size := by simpa using hb
    have hle : s1.heap.objs.size ≤ b := by
      rcases e' with z | z
      · rw [z]; exact Nat.le_add_right _ _
      · rw [z]; exact Nat.le_refl _
    exact I1.fpOk hle (I1.hok.fresh hle)
  rcases q1 with ⟨a, xs, ex, hq, q⟩ | ⟨a, xs, ex, hq, q⟩ | ⟨z, ex, q⟩
  rotate_left
  · subst ex
    cases r1 with
    | cons r rr =>
      cases rr
      cases r
      obtain ⟨its, rv, p', hz⟩ := I1.tuple hq
      refine enumT_call (show s1.heap.IsTuple a its.toArray from p') fun h' he hit hk => wpAny_pyIter_enum he ?_
      have I2 : Inv X pins σ H1 { s1 with heap := h' } := I1.kept (t' := s1.toks) hk
      exact ⟨s1.heap.objs.size + 1, [s1.heap.objs.size + 1, s1.heap.objs.size], _, _, H1, rfl, I2, turn_enumT a (s1.heap.objs.size + 1) s1.heap.objs.size, ⟨⟨.none, he⟩, hit, Nat.succ_ne_self _⟩, fresh, q⟩
  rotate_left
  · subst ex
    cases r1 with
    | cons r rr =>
      cases rr
      cases r
      obtain ⟨its, rv, p', hz⟩ := I1.list hq
      refine call_enumerate_list p'.isList fun h' he hit hsz hk => wpAny_pyIter_enum he ?_
      have I2 : Inv X pins σ H1 { s1 with heap := h' } := I1.kept (t' := s1.toks) hk
      exact ⟨s1.heap.objs.size + 1, [s1.heap.objs.size + 1, s1.heap.objs.size], _, _, H1, rfl, I2, turn_enum a (s1.heap.objs.size + 1) s1.heap.objs.size, ⟨⟨.none, he⟩, hit, Nat.succ_ne_self _⟩, fresh, q⟩
  · subst ex
    cases r1 with
    | cons r rr =>
      cases rr
      obtain ⟨t, rfl⟩ := r
      refine call_enumerate_str fun h' he hit hsz hk => wpAny_pyIter_enum he ?_
      have I2 : Inv X pins σ H1 { s1 with heap := h' } := I1.kept (t' := s1.toks) hk
      exact ⟨s1.heap.objs.size + 1, [s1.heap.objs.size + 1, s1.heap.objs.size], _, _, H1, rfl, I2, turn_enumS z t (s1.heap.objs.size + 1) s1.heap.objs.size, ⟨⟨.none, he⟩, hit, Nat.succ_ne_self _⟩, fresh, q⟩
theorem sx_enum {elts : List Expr} {kk : Nat} {tpos : Pos} (hg : Gl X "enumerate") (hm : X.mg "enumerate" = none) (h1 : starEach [a] X.env = (false, eval a X.env) :: starEach [] X.env) (h1' : starEach [a] X.env = [(false, eval a X.env)]) (ha : PEv X flds a ma) :
    PIv X flds (.Tuple elts kk tpos) (.Call (.Name "enumerate" p) [a] [] pos) fun env s => (ma env s).bind fun v s => match v with
      | .str z => .ok ⟨(strItems z).zipIdx.map fun p => .tup [.int (p.2 : Nat), p.1], []⟩ s
      | v => match asSeq s v with | some xs => .ok ⟨xs.zipIdx.map fun p => .tup [.int (p.2 : Nat), p.1], liveOf v xs⟩ s | none => .stk :=
  fun W tk => pi_imp (pi_enumA hg hm (pa_cons (ha W tk) pa_nil h1) h1') fun σ H R ⟨g, env, s, hs, hl, h⟩ => TM.seq hs hl h fun v H1 g1 z s1 l1 hs1 hl1 rv h1 => by
    split at h1
    · cases rv
      exact .inr (.inr ⟨_, rfl, h1 _ _ g1 Gh.le.rfl hs1 walkES⟩)
    · rename_i nt
      cases e : asSeq s1 z with
      | none => rw [e] at h1; exact h1.elim
      | some xs =>
        rw [e] at h1
        obtain ⟨a, rfl, S⟩ := src_of (flds := flds) rv e
        obtain ⟨vs, q, _⟩ := S g1 H1 s1 Gh.sub.rfl hs1 (live_now e)
        cases ht : isTup z with
        | false =>
          rw [ht] at S q
          exact .inl ⟨a, vs, rfl, q, h1 _ _ g1 Gh.le.rfl hs1 (walkEL S)⟩
        | true =>
          rw [ht] at S q
          exact .inr (.inl ⟨a, vs, rfl, q, h1 _ _ g1 Gh.le.rfl hs1 (walkET S)⟩)
/-! ### zip -/
theorem liveOk_app {s : Store} {l l' : List (Nat × List PV)} (h : liveOk s (l ++ l') = true) : liveOk s l = true ∧ liveOk s l' = true := by
  unfold liveOk at h ⊢
  rw [List.all_append, Bool.and_eq_true] at h
  exact h
theorem walkZ {isT : Bool} {a b : Addr} {xs ys : List PV} {l1 l2 : List (Nat × List PV)} (S1 : Src X flds g isT a xs l1) (S2 : Src X flds g isT b ys l2) :
    WalkV X flds g (if isT then RZ.ItzT X.K a b else Itz X.K a b) ⟨(xs.zip ys).map fun p => .tup [p.1, p.2], l1 ++ l2⟩ where
  go := fun g' H s i l hs lv hi => by
    obtain ⟨lv1, lv2⟩ := liveOk_app lv
    obtain ⟨vs, q, r⟩ := S1 g' H s l hs lv1
    obtain ⟨ws, q2, r2⟩ := S2 g' H s l hs lv2
    have hi : i < min xs.length ys.length := by simpa using hi
    have h1 : i < vs.length := by rw [r.length]; omega
    have h2 : i < ws.length := by rw [r2.length]; omega
    cases isT with
    | true => exact ⟨vs, ws, vs[i], ws[i], q, q2, List.getElem?_eq_getElem h1, List.getElem?_eq_getElem h2⟩
    | false => exact ⟨vs, ws, vs[i], ws[i], q, q2, List.getElem?_eq_getElem h1, List.getElem?_eq_getElem h2⟩
  stop := fun g' H s l hs lv => by
    obtain ⟨lv1, lv2⟩ := liveOk_app lv
    obtain ⟨vs, q, r⟩ := S1 g' H s l hs lv1
    obtain ⟨ws, q2, r2⟩ := S2 g' H s l hs lv2
    have hn : ((xs.zip ys).map fun p => PV.tup [p.1, p.2]).length = min xs.length ys.length := by simp
    show (if isT then RZ.ItzT X.K a b else Itz X.K a b).stop ((xs.zip ys).map fun p => PV.tup [p.1, p.2]).length H
    rw [hn]
    have e : vs.length ≤ min xs.length ys.length ∨ ws.length ≤ min xs.length ys.length := by
      rw [r.length, r2.length]
      omega
    cases isT with
    | true => exact ⟨vs, ws, q, q2, e⟩
    | false => exact ⟨vs, ws, q, q2, e⟩
  yld := fun g' H s i x H' l hs lv hi y => by
    obtain ⟨lv1, lv2⟩ := liveOk_app lv
    obtain ⟨vs, q, r⟩ := S1 g' H s l hs lv1
    obtain ⟨ws, q2, r2⟩ := S2 g' H s l hs lv2
    have key : ∃ T x0 y0, x = .ref T ∧ H T = none ∧ H' = upd H T (.tup [x0, y0]) ∧ vs[i]? = some x0 ∧ ws[i]? = some y0 := by
      cases isT with
      | true =>
        obtain ⟨T, x0, y0, e1, e2, e3, e4, e5⟩ := y
        exact ⟨T, x0, y0, e1, e2, e3, e4 vs q, e5 ws q2⟩
      | false =>
        obtain ⟨T, x0, y0, e1, e2, e3, e4, e5⟩ := y
        exact ⟨T, x0, y0, e1, e2, e3, e4 vs q, e5 ws q2⟩
    obtain ⟨T, x0, y0, rfl, hT, rfl, e1, e2⟩ := key
    obtain ⟨p, e3, rp⟩ := r.getV e1
    obtain ⟨p2, e4, rp2⟩ := r2.getV e2
    obtain ⟨l2, hs2⟩ := hs.frozen (.tup [x0, y0]) hT
    refine ⟨_, l2, hs2, .tup [p, p2], ?_, .tup (.inl (.inl (by show upd g'.F T _ T = _; exact upd_same))) (.cons (rp.mono l2) (.cons (rp2.mono l2) .nil))⟩
    show ((xs.zip ys).map fun p => PV.tup [p.1, p.2])[i]? = _
    rw [List.getElem?_map, List.getElem?_zip_eq_some.mpr (show xs[i]? = some (p, p2).1 ∧ ys[i]? = some (p, p2).2 from ⟨e3, e4⟩)]
    rfl
theorem sx_zip {elts : List Expr} {kk : Nat} {tpos : Pos} (hg : Gl X "zip") (hm : X.mg "zip" = none) (h1 : starEach [a, b] X.env = (false, eval a X.env) :: starEach [b] X.env) (h2 : starEach [b] X.env = (false, eval b X.env) :: starEach [] X.env)
    (hpl : (backTo pos (starEach [b] X.env)).any (·.1) = false) (ha : PEv X flds a ma) (hb : PEv X flds b mb) :
    PIv X flds (.Tuple elts kk tpos) (.Call (.Name "zip" p) [a, b] [] pos) fun env s => (ma env s).bind fun v s => (mb env s).bind fun u s => match asSeq s v, asSeq s u with
      | some xs, some ys => if isTup v != isTup u then .stk else .ok ⟨(xs.zip ys).map fun p => .tup [p.1, p.2], liveOf v xs ++ liveOf u ys⟩ s
      | _, _ => .stk :=
  fun W tk => pi_imp (RZ.pi_zipA hg hm (pa_cons (ha W tk) (pa_cons (hb W tk) pa_nil h2) h1) h1 hpl) fun σ H R ⟨g, env, s, hs, hl, h⟩ => TM.seq hs hl h fun v H1 g1 z s1 l1 hs1 hl1 rv h1 =>
    TM.seq hs1 hl1 h1 fun v2 H2 g2 z2 s2 l2 hs2 hl2 rv2 h2 => by
    cases e1 : asSeq s2 z with
    | none => rw [e1] at h2; exact h2.elim
    | some xs =>
    cases e2 : asSeq s2 z2 with
    | none => rw [e1, e2] at h2; exact h2.elim
    | some ys =>
    rw [e1, e2] at h2
    dsimp only at h2
    split at h2
    · exact h2.elim
    · rename_i ht
      have ht : isTup z = isTup z2 := by
        cases h3 : isTup z <;> cases h4 : isTup z2 <;> first | rfl | (rw [h3, h4] at ht; exact absurd rfl ht)
      obtain ⟨a, rfl, S⟩ := src_of (flds := flds) (rv.mono l2) e1
      obtain ⟨b, rfl, S2⟩ := src_of (flds := flds) rv2 e2
      obtain ⟨vs, q, _⟩ := S g2 H2 s2 Gh.sub.rfl hs2 (live_now e1)
      obtain ⟨ws, q2, _⟩ := S2 g2 H2 s2 Gh.sub.rfl hs2 (live_now e2)
      rw [← ht] at S2 q2
      have fin := h2 _ _ g2 Gh.le.rfl hs2 (walkZ S S2)
      cases h3 : isTup z with
      | true =>
        rw [h3] at q q2 fin
        exact ⟨a, b, vs, ws, rfl, .inr ⟨q, q2, fin⟩⟩
      | false =>
        rw [h3] at q q2 fin
        exact ⟨a, b, vs, ws, rfl, .inl ⟨q, q2, fin⟩⟩
end
end MP

/-! Targets, list comprehensions. -/
namespace MP
open PySem PySem.Spec PyProof.Rows L2
section
variable {X : Cx} {flds : Fl} {g : Gh} {H : Hp} {s : Store}
/-! ### targets -/
def gNames : List Nat → TGs
  | [] => gNil
  | i :: is => gCons (gName i) (gNames is)
def gTg (K : PySem.W.Frag) : Tg → TG
  | .one i => gName i
  | .many is => gTup K is.length (gNames is)
def tgSlots : Tg → List Nat
  | .one i => [i]
  | .many is => is
theorem rl_set {σ : L2.St} {env : Env} {i : Nat} {v : V} {x : PV} (h : RLx X flds g σ env) (r : RVx X flds g v x) : RLx X flds g (σ.set i (some v)) (env.set i x) := by
  refine ⟨by rw [List.length_set, List.length_set]; exact h.1, fun j y e n => ?_⟩
  by_cases hj : i = j
  · subst hj
    have hi : i < env.length := by
      have := (List.getElem?_eq_some_iff.mp e).1
      rwa [List.length_set] at this
    rw [List.getElem?_set_self hi] at e
    cases e
    exact ⟨v, List.getElem?_set_self (by rw [← h.1]; exact hi), r⟩
  · rw [List.getElem?_set_ne hj] at e ⊢
    exact h.2 j y e n
theorem rl_und {σ : L2.St} {env : Env} {i : Nat} (h : RLx X flds g σ env) : RLx X flds g (σ.set i none) (env.set i .und) := by
  refine ⟨by rw [List.length_set, List.length_set]; exact h.1, fun j y e n => ?_⟩
  by_cases hj : i = j
  · subst hj
    have hi : i < env.length := by
      have := (List.getElem?_eq_some_iff.mp e).1
      rwa [List.length_set] at this
    rw [List.getElem?_set_self hi] at e
    cases e
    exact absurd rfl n
  · rw [List.getElem?_set_ne hj] at e ⊢
    exact h.2 j y e n
theorem wipe_swap (σ : L2.St) (v : Nat) : ∀ vs, wipe (σ.set v none) vs = (wipe σ vs).set v none
  | [] => rfl
  | u :: us => by
    show (wipe (σ.set v none) us).set u none = ((wipe σ us).set u none).set v none
    rw [wipe_swap σ v us]
    by_cases h : u = v
    · rw [h]
    · rw [List.set_comm _ _ h]
theorem rl_wipe : ∀ {vs : List Nat} {σ : L2.St} {env : Env}, RLx X flds g σ env → RLx X flds g (wipe σ vs) (vs.foldl (fun e i => e.set i .und) env)
  | [], _, _, h => h
  | v :: vs, σ, env, h => by
    have := rl_wipe (vs := vs) (rl_und (i := v) h)
    rw [wipe_swap] at this
    exact this
theorem wipe_set {σ : L2.St} {i : Nat} {o : Option V} : ∀ {vs : List Nat}, i ∈ vs → wipe (σ.set i o) vs = wipe σ vs
  | [], h => by cases h
  | v :: vs, h => by
    show (wipe (σ.set i o) vs).set v none = (wipe σ vs).set v none
    by_cases hv : i ∈ vs
    · rw [wipe_set hv]
    · have e : i = v := by
        rcases List.mem_cons.mp h with e | e
        · exact e
        · exact absurd e hv
      subst e
      clear h
      have key : ∀ (us : List Nat), i ∉ us → wipe (σ.set i o) us = (wipe σ us).set i o := by
        intro us
        induction us with
        | nil => intro _; rfl
        | cons u us ih =>
          intro hu
          show (wipe (σ.set i o) us).set u none = ((wipe σ us).set u none).set i o
          rw [ih fun m => hu (List.mem_cons_of_mem _ m), List.set_comm]
          exact fun e => hu (by rw [e]; exact List.mem_cons_self)
      rw [key vs hv, List.set_set]
theorem wipe_idem (σ : L2.St) : ∀ vs, wipe (wipe σ vs) vs = wipe σ vs := by
  have key : ∀ (us vs : List Nat), (∀ i ∈ us, i ∈ vs) → wipe (wipe σ us) vs = wipe σ vs := by
    intro us
    induction us with
    | nil => intro _ _; rfl
    | cons u us ih =>
      intro vs h
      show wipe ((wipe σ us).set u none) vs = _
      rw [wipe_set (h u List.mem_cons_self), ih vs fun i hi => h i (List.mem_cons_of_mem _ hi)]
  exact fun vs => key vs vs fun _ h => h
theorem names_ok : ∀ {is : List Nat} {vs : List V} {xs : List PV} {σ : L2.St} {env : Env}, RVsx X flds g vs xs → xs.length = is.length → RLx X flds g σ env →
    ∃ σ', RLx X flds g σ' ((is.zip xs).foldl (fun e p => e.set p.1 p.2) env) ∧ (∀ (H : Hp) (Q : L2.St → Hp → Prop), Q σ' H → gNames is vs σ H Q) ∧ ∀ ws : List Nat, (∀ i ∈ is, i ∈ ws) → wipe σ' ws = wipe σ ws
  | [], vs, xs, σ, env, r, hl, h => by
    have : xs = [] := List.length_eq_zero_iff.mp hl
    subst this
    cases r
    exact ⟨σ, h, fun H Q q => ⟨rfl, q⟩, fun _ _ => rfl⟩
  | i :: is, vs, [], σ, env, r, hl, h => by simp at hl
  | i :: is, _ :: vs, x :: xs, σ, env, .cons r1 r2, hl, h => by
    obtain ⟨σ', h1, h2, h3⟩ := names_ok r2 (by simpa using hl) (rl_set (i := i) h r1)
    refine ⟨σ', h1, fun H Q q => ⟨_, _, rfl, h2 H Q q⟩, fun ws hw => ?_⟩
    rw [h3 ws fun j hj => hw j (List.mem_cons_of_mem _ hj), wipe_set (hw i List.mem_cons_self)]
theorem tg_ok {tg : Tg} {v : V} {x : PV} {σ : L2.St} {env env' : Env} (hs : RSx X flds g H s) (r : RVx X flds g v x) (h : RLx X flds g σ env) (e : bindTg tg x s env = some env') :
    ∃ σ', RLx X flds g σ' env' ∧ (∀ Q : L2.St → Hp → Prop, Q σ' H → gTg X.K tg v σ H Q) ∧ ∀ ws : List Nat, (∀ i ∈ tgSlots tg, i ∈ ws) → wipe σ' ws = wipe σ ws := by
  cases tg with
  | one i =>
    cases e
    exact ⟨_, rl_set h r, fun Q q => q, fun ws hw => wipe_set (hw i (List.mem_singleton.mpr rfl))⟩
  | many is =>
    unfold bindTg at e
    dsimp only at e
    split at e
    · rename_i xs
      split at e
      · rename_i hl
        cases e
        cases r with
        | tup q rs =>
          obtain ⟨σ', h1, h2, h3⟩ := names_ok rs hl h
          exact ⟨σ', h1, fun Q qq => ⟨_, _, rfl, sqt_heap hs q, by rw [rs.length]; exact hl, h2 H Q qq⟩, h3⟩
      · cases e
    · cases e

/-! ### a comprehension -/
def PTsv (X : Cx) (flds : Fl) (ifs : List Expr) (m : Env → Store → Res Bool) : Prop := ∀ W, Takes X W → PTs X ifs (TM X flds eqB W m)
theorem pts_imp {ifs : List Expr} {t t' : TT} (h : PTs X ifs t) (i : ∀ σ H Q, t' σ H Q → t σ H Q) : PTs X ifs t' := ⟨fun pins s σ H Q I q => h.run pins s σ H Q I (i _ _ _ q)⟩
theorem tss_nil : PTsv X flds [] fun _ s => .ok true s := fun W _ => pts_imp pts_nil fun σ H Q ⟨g, env, s, hs, hl, h⟩ => h _ _ g Gh.le.rfl hs rfl
theorem tss_one {c : Expr} {mc : Env → Store → Res PV} (h : PTv X flds c mc) : PTsv X flds [c] fun env s => (mc env s).bind fun x s => Res.of (truth s x) s := fun W tk => pts_one (h W tk)
theorem upd_upd {H : Hp} {p : Addr} {a b : HO} : upd (upd H p a) p b = upd H p b := by
  funext q
  by_cases h : q = p
  · rw [h, upd_same, upd_same]
  · rw [upd_ne h, upd_ne h, upd_ne h]
theorem upd_id {H : Hp} {p : Addr} {a : HO} (h : H p = some a) : upd H p a = H := by
  funext q
  by_cases e : q = p
  · rw [e, upd_same, h]
  · rw [upd_ne e]
/-- the loop of the block, from its start -/
theorem comp_loop {bx : Bool} {tgi : Tg} {own : List Nat} {mt : Env → Store → Res Bool} {me : Env → Store → Res PV} {σ : L2.St} {env : Env} {Q : VK} {W0 : XK} {J : It} {w : ItV} {D : Addr} {W : WX}
    (hsub : ∀ i ∈ tgSlots tgi, i ∈ own) (hs : RSx X flds g H s) (hl : RLx X flds g σ env) (hw : WalkV X flds g J w) (hD : H D = none)
    (h : Gd X flds (RVx X flds) g Q W0 ((compLoop (compF tgi own mt me env) w.live w.items [] s).bind fun xs s => mkL bx (.lst xs) s)) :
    ∃ W' : Nat → Nat → Hp → Prop, (∃ m, W' 0 m (upd H D (.lst []))) ∧ ∀ i m H, W' i m H →
      (J.stop i H ∧ Q (.ref D) H) ∨ (J.go i H ∧ ∃ Nx : Hp → Prop, (∀ H', Nx H' → ∃ m', m' < m ∧ W' (i + 1) m' H') ∧ ∀ x H', J.yld i H x H' → gTg X.K tgi x (wipe σ own) H' fun σ2 H2 => wipe σ2 own = wipe σ own ∧
        TM X flds eqB W mt σ2 H2 fun b H3 => if b = true then TM X flds (RVx X flds) W me σ2 H3 fun y H4 => ∃ acc, H4 D = some (.lst acc) ∧ acc.length < sizeLine ∧ Nx (upd H4 D (.lst (acc ++ [y]))) else Nx H3) := by
  have hR : g.R D = none := hs.rnone hD
  let Pv : Nat → Hp → Prop := fun i H2 => ∃ g2 s2 acc vs, g.sub g2 ∧ g2.R = upd g.R D (.lst vs) ∧ RSx X flds g2 H2 s2 ∧ RVsx X flds g2 vs acc ∧
    Gd X flds (RVx X flds) g Q W0 ((compLoop (compF tgi own mt me env) w.live (w.items.drop i) acc s2).bind fun xs s => mkL bx (.lst xs) s)
  refine ⟨fun i m H2 => m = w.items.length - i ∧ i ≤ w.items.length ∧ Pv i H2, ⟨_, rfl, Nat.zero_le _, ?_⟩, ?_⟩
  · obtain ⟨l1, h1⟩ := hs.hold (.lst []) hD
    exact ⟨_, s, [], [], l1, rfl, h1, .nil, h⟩
  · rintro i m H2 ⟨rfl, hi, g2, s2, acc, vs, l2, eR, hs2, rv2, hg⟩
    have lv : liveOk s2 w.live = true := by
      cases hd : w.items.drop i with
      | nil =>
        rw [hd] at hg
        unfold compLoop at hg
        split at hg
        · assumption
        · exact hg.elim
      | cons x r =>
        rw [hd] at hg
        unfold compLoop at hg
        split at hg
        · assumption
        · exact hg.elim
    by_cases hlt : i < w.items.length
    · refine .inr ⟨hw.go g2 H2 s2 i l2 hs2 lv hlt, Pv (i + 1), fun H' p => ⟨w.items.length - (i + 1), by omega, rfl, hlt, p⟩, fun x H3 y => ?_⟩
      obtain ⟨g3, l3, hs3, p, ep, rp⟩ := hw.yld g2 H2 s2 i x H3 l2 hs2 lv hlt y
      have ed : w.items.drop i = p :: w.items.drop (i + 1) := by
        rw [List.drop_eq_getElem_cons hlt]
        have := List.getElem?_eq_getElem hlt
        rw [ep] at this
        cases this
        rfl
      rw [ed] at hg
      unfold compLoop at hg
      rw [if_pos lv] at hg
      have hl2 : RLx X flds g3 (wipe σ own) (own.foldl (fun e i => e.set i .und) env) := rl_wipe ((hl.msub l2).mono l3)
      unfold compF at hg
      cases eb : bindTg tgi p s2 (own.foldl (fun e i => e.set i .und) env) with
      | none =>
        simp only [eb] at hg
        exact hg.elim
      | some env' =>
        simp only [eb] at hg
        obtain ⟨σ', hl', hgq, hwp⟩ := tg_ok hs3 rp hl2 eb
        refine hgq _ ⟨by rw [hwp own hsub, wipe_idem], ?_⟩
        refine ⟨g3, env', s2, hs3, hl', ?_⟩
        cases et : mt env' s2 with
        | exc _ _ => rw [et] at hg; exact hg.elim
        | stk => rw [et] at hg; exact hg.elim
        | ok t s3 =>
          rw [et] at hg
          intro b H4 g4 l4 hs4 hb
          cases hb
          simp only [Res.bind_ok] at hg
          cases t with
          | false =>
            rw [if_neg Bool.false_ne_true] at hg ⊢
            exact ⟨g4, s3, acc, vs, l2.trans (l3.sub.trans l4.sub), by rw [← l4.R, ← l3.R, eR], hs4, (rv2.mono l3).mono l4, hg⟩
          | true =>
            rw [if_pos rfl] at hg ⊢
            refine ⟨g4, env', s3, hs4, hl'.mono l4, ?_⟩
            cases ee : me env' s3 with
            | exc _ _ => rw [ee] at hg; exact hg.elim
            | stk => rw [ee] at hg; exact hg.elim
            | ok yv s4 =>
              rw [ee] at hg
              simp only [Res.bind_ok] at hg
              intro v5 H5 g5 l5 hs5 r5
              have eR5 : g5.R = upd g.R D (.lst vs) := by rw [← l5.R, ← l4.R, ← l3.R, eR]
              have hR5 : g5.R D = some (.lst vs) := by rw [eR5, upd_same]
              have rvs5 := ((rv2.mono l3).mono l4).mono l5
              split at hg
              · rename_i hz
                refine ⟨vs, hs5.rs _ _ hR5, by rw [rv2.length]; exact hz, ?_⟩
                obtain ⟨l6, hs6⟩ := hs5.turnR (o' := .lst (vs ++ [v5])) hR5
                refine ⟨_, s4, acc ++ [yv], vs ++ [v5], ((l2.trans (l3.sub.trans l4.sub)).trans l5.sub).trans l6, ?_, hs6, (rvs5.append (.cons r5 .nil)).msub l6, hg⟩
                show upd g5.R D _ = _
                rw [eR5, upd_upd]
              · exact hg.elim
    · have e : i = w.items.length := by omega
      subst e
      refine .inl ⟨hw.stop g2 H2 s2 l2 hs2 lv, ?_⟩
      rw [List.drop_length] at hg
      unfold compLoop at hg
      rw [if_pos lv] at hg
      simp only [Res.bind_ok] at hg
      cases bx with
      | false =>
        obtain ⟨l6, hs6⟩ := hs2.letF eR hR
        refine hg _ _ _ ⟨(l2.trans l6).F, (l2.trans l6).μ, rfl⟩ hs6 (.lst ?_ (rv2.msub l6))
        show upd g2.F D _ D = _
        exact upd_same
      | true =>
        have hRD : g2.R D = some (.lst vs) := by rw [eR, upd_same]
        obtain ⟨l6, hs6⟩ := hs2.letM (so := .lst acc) eR hR ⟨vs, hs2.rs _ _ hRD, rv2⟩
        refine hg _ _ _ ⟨(l2.trans l6).F, (l2.trans l6).μ, rfl⟩ hs6 (.obj ?_)
        show (g2.μ ++ [D])[s2.length]? = some D
        rw [← hs2.len, List.getElem?_append_right (Nat.le_refl _), Nat.sub_self]
        rfl
theorem takes_blk {s : Shared} {H : Hp} {scope : Scope} {ce : PySem.Env} {fp : List Addr} : Takes (X.blk s H scope ce fp) (fun _ _ _ _ => False) := fun u s' ⟨a, B, sI, pins, σ, H, cls, d, e, I, nb, up, sky, na, os, ag, w⟩ => w.elim
theorem comp_tm {bx : Bool} {tgi : Tg} {own : List Nat} {mt : Env → Store → Res Bool} {me : Env → Store → Res PV} {mi : Env → Store → Res ItV} {W : WX} {W2 : WX} {σ : L2.St} {H : Hp} {Q : VK} (hsub : ∀ i ∈ tgSlots tgi, i ∈ own)
    (h : TM X flds (RVx X flds) W (fun env s => (mi env s).bind fun w s => (compLoop (compF tgi own mt me env) w.live w.items [] s).bind fun xs s => mkL bx (.lst xs) s) σ H Q) :
    tLc (TM X flds (WalkV X flds) W mi) (gTg X.K tgi) (TM X flds eqB W2 mt) (TM X flds (RVx X flds) W2 me) own σ H Q := by
  obtain ⟨g, env, s, hs, hl, h⟩ := h
  exact TM.seq (rel := WalkV X flds) (f := fun w s => (compLoop (compF tgi own mt me env) w.live w.items [] s).bind fun xs s => mkL bx (.lst xs) s) hs hl h fun J H1 g1 w s1 l1 hs1 hl1 rv h1 D hD => comp_loop hsub hs1 hl1 rv hD h1
theorem sx_comp {bx : Bool} {tgi : Tg} {own : List (Str × Nat)} {mt : Env → Store → Res Bool} {me : Env → Store → Res PV} {mi : Env → Store → Res ItV} {elt tg iter : Expr} {ifs : List Expr} {scope : Scope} {pos : Pos} (hc : X.calm = true) (hN : X.N.Nodup)
    (hsub : ∀ i ∈ tgSlots tgi, i ∈ own.map (·.2)) (ok : BlkOk X.N X.env.scope scope own) (hs : ∀ x, foldedSetIterable iter X.env x = pure x) (hi : PIv X flds tg iter mi)
    (hg : ∀ (s : Shared) (H : Hp) (C : Addr) (cl : List (Str × Addr)) (fp : List Addr), PG (X.blk s H scope (compEnvC scope cl C X.env) fp) tg (gTg X.K tgi))
    (ht : ∀ (s : Shared) (H : Hp) (C : Addr) (cl : List (Str × Addr)) (fp : List Addr), PTsv (X.blk s H scope (compEnvC scope cl C X.env) fp) flds ifs mt)
    (he : ∀ (s : Shared) (H : Hp) (C : Addr) (cl : List (Str × Addr)) (fp : List Addr), PEv (X.blk s H scope (compEnvC scope cl C X.env) fp) flds elt me) :
    PEv X flds (.ListComp elt [⟨tg, iter, ifs, 0⟩] scope pos) fun env s => (mi env s).bind fun w s => (compLoop (compF tgi (own.map (·.2)) mt me env) w.live w.items [] s).bind fun xs s => mkL bx (.lst xs) s :=
  fun W tk => pe_imp (pe_lc (tt := TM X flds eqB (fun _ _ _ _ => False) mt) (te := TM X flds (RVx X flds) (fun _ _ _ _ => False) me) hc hN (hi W tk) ok hg (fun s H C cl fp => ht s H C cl fp _ takes_blk) (fun s H C cl fp => he s H C cl fp _ takes_blk) hs)
    fun σ H Q h => comp_tm hsub h
end
end MP

/-! Statements. -/
namespace MP
open PySem PySem.Spec PyProof.Rows L2
/-- what is wanted behind a statement -/
def GoodS (X : Cx) (flds : Fl) (g : Gh) (D : Ends) (W : WX) : SR → Prop
  | .nx env s => ∀ σ' H' g', g.le g' → RSx X flds g' H' s → RLx X flds g' σ' env → D.nx σ' H'
  | .rt v s => ∀ x H' g', g.le g' → RSx X flds g' H' s → RVx X flds g' x v → D.rt x H'
  | .bk env s => ∀ σ' H' g', g.le g' → RSx X flds g' H' s → RLx X flds g' σ' env → D.bk σ' H'
  | .ct env s => ∀ σ' H' g', g.le g' → RSx X flds g' H' s → RLx X flds g' σ' env → D.ct σ' H'
  | .exc x env s => ∀ c d σ' H' g', g.le g' → RSx X flds g' H' s → RLx X flds g' σ' env → RX X.K X.mg flds g' c d x → W c d σ' H'
  | .stk => False
def SM (X : Cx) (flds : Fl) (W : WX) (m : Env → Store → SR) : TS := fun D σ H => ∃ g env s, RSx X flds g H s ∧ RLx X flds g σ env ∧ GoodS X flds g D W (m env s)
def PSv (X : Cx) (flds : Fl) (st : Stmt) (m : Env → Store → SR) : Prop := ∀ W, Takes X W → PassesOwn (model X.prog X.w) X.A X.env X.xe → PS X st (SM X flds W m)
def PSsv (X : Cx) (flds : Fl) (sts : List Stmt) (m : Env → Store → SR) : Prop := ∀ W, Takes X W → PassesOwn (model X.prog X.w) X.A X.env X.xe → PSs X sts (SM X flds W m)
section
variable {X : Cx} {flds : Fl} {g g' : Gh} {H : Hp} {s : Store} {D : Ends} {W : WX} {σ : L2.St} {env : Env}
theorem ps_imp {st : Stmt} {t t' : TS} (h : PS X st t) (i : ∀ D σ H, t' D σ H → t D σ H) : PS X st t' := ⟨fun pins s σ H D I q => h.run pins s σ H D I (i _ _ _ q)⟩
theorem pss_imp {st : List Stmt} {t t' : TS} (h : PSs X st t) (i : ∀ D σ H, t' D σ H → t D σ H) : PSs X st t' := ⟨fun pins s σ H D I q => h.run pins s σ H D I (i _ _ _ q)⟩
theorem GoodS.mono {r : SR} (h : GoodS X flds g D W r) (l : g.le g') : GoodS X flds g' D W r := by
  cases r with
  | nx env s => exact fun σ H g2 l2 => h σ H g2 (l.trans l2)
  | rt v s => exact fun v H g2 l2 => h v H g2 (l.trans l2)
  | bk env s => exact fun σ H g2 l2 => h σ H g2 (l.trans l2)
  | ct env s => exact fun σ H g2 l2 => h σ H g2 (l.trans l2)
  | exc x env s => exact fun c d σ H g2 l2 => h c d σ H g2 (l.trans l2)
  | stk => exact h
/-- an expression's piece, then the rest of the statement -/
theorem TM.sr {α β : Type} {rel : Gh → β → α → Prop} {m : Env → Store → Res α} {f : α → Store → SR} {R : β → Hp → Prop} (hs : RSx X flds g H s) (hl : RLx X flds g σ env) (h : GoodS X flds g D W ((m env s).sr env f))
    (k : ∀ v H1 g1 z s1, g.le g1 → RSx X flds g1 H1 s1 → RLx X flds g1 σ env → rel g1 v z → GoodS X flds g1 D W (f z s1) → R v H1) : TM X flds rel W m σ H R := by
  refine ⟨g, env, s, hs, hl, ?_⟩
  cases e : m env s with
  | ok z s1 =>
    rw [e] at h
    exact fun v H1 g1 l1 hs1 r1 => k v H1 g1 z s1 l1 hs1 (hl.mono l1) r1 (GoodS.mono h l1)
  | exc x s1 =>
    rw [e] at h
    exact fun c d H1 g1 l1 hs1 r1 => h c d σ H1 g1 l1 hs1 (hl.mono l1) r1
  | stk =>
    rw [e] at h
    exact h.elim
theorem lookS {α : Type} {o : Option α} {f : α → Store → SR} (h : GoodS X flds g D W ((Res.of o s).sr env f)) : ∃ z, o = some z ∧ GoodS X flds g D W (f z s) := by
  cases o with
  | none => exact h.elim
  | some z => exact ⟨z, rfl, h⟩
variable {st : Stmt} {rest body : List Stmt} {e a b c o i : Expr} {me ma mb mc mo mi : Env → Store → Res PV} {m1 m2 : Env → Store → SR} {pos : Pos}
/-! ### rows of statements -/
theorem st_nil : PSsv X flds [] fun env s => .nx env s := fun W _ _ => pss_imp pss_nil fun D σ H ⟨g, env, s, hs, hl, h⟩ => h _ _ g Gh.le.rfl hs hl
theorem st_cons (h1 : PSv X flds st m1) (h2 : PSsv X flds rest m2) : PSsv X flds (st :: rest) fun env s => (m1 env s).andThen m2 :=
  fun W tk hp => pss_imp (pss_cons (h1 W tk hp) (h2 W tk hp)) fun D σ H ⟨g, env, s, hs, hl, h⟩ => by
    refine ⟨g, env, s, hs, hl, ?_⟩
    have h : GoodS X flds g D W ((m1 env s).andThen m2) := h
    cases e : m1 env s with
    | nx env' s' =>
      rw [e] at h
      exact fun σ' H' g' l hs' hl' => ⟨g', env', s', hs', hl', GoodS.mono h l⟩
    | rt v s' => rw [e] at h; exact h
    | bk env' s' => rw [e] at h; exact h
    | ct env' s' => rw [e] at h; exact h
    | exc x env' s' => rw [e] at h; exact h
    | stk => rw [e] at h; exact h
/-! ### plain statements -/
theorem st_expr (hsw : swapsWith e none pos.line X.env = pure false) (he : PEv X flds e me) : PSv X flds (.Expr e pos) fun env s => (me env s).sr env fun _ s => .nx env s :=
  fun W tk _ => ps_imp (ps_expr (he W tk) hsw) fun D σ H ⟨g, env, s, hs, hl, h⟩ => TM.sr hs hl h fun v H1 g1 z s1 l1 hs1 hl1 rv h1 => h1 _ _ g1 Gh.le.rfl hs1 hl1
theorem st_doc {x : Str} {j : Nat} {p p' : Pos} : PSv X flds (.Expr (.Constant (.str x) j p) p') fun env s => .nx env s := fun W _ _ => ps_imp ps_doc fun D σ H ⟨g, env, s, hs, hl, h⟩ => h _ _ g Gh.le.rfl hs hl
theorem st_set {i : Nat} {x : Str} {pos' : Pos} (hN : X.N.Nodup) (hi : X.N[i]? = some x) (hx : Loc X.env.scope x) (hsw : swapsWith e (some (.Name x pos')) pos.line X.env = pure false) (hf : X.fn x = true ∨ X.env.scope.names.lookup x = some .local) (he : PEv X flds e me) :
    PSv X flds (.Assign [.Name x pos'] e pos) fun env s => (me env s).sr env fun x s => .nx (env.set i x) s :=
  fun W tk _ => ps_imp (ps_set hN hi hx (he W tk) hsw hf) fun D σ H ⟨g, env, s, hs, hl, h⟩ => TM.sr hs hl h fun v H1 g1 z s1 l1 hs1 hl1 rv h1 => h1 _ _ g1 Gh.le.rfl hs1 (rl_set hl1 rv)
theorem st_asgt {is : List Nat} {tg : Expr} (hg : PG X tg (gTg X.K (.many is))) (hsw : swapsWithSole [tg] e pos.line X.env = pure false) (hw : swappedStores [tg] e X.env = pure none) (h1 : (assignEach [tg] X.env).map (·.2) = [assign tg X.env]) (he : PEv X flds e me) :
    PSv X flds (.Assign [tg] e pos) fun env s => (me env s).sr env fun x s => match bindTg (.many is) x s env with | some env' => .nx env' s | none => .stk :=
  fun W tk _ => ps_imp (ps_asg (he W tk) hg hsw hw h1) fun D σ H ⟨g, env, s, hs, hl, h⟩ => TM.sr hs hl h fun v H1 g1 z s1 l1 hs1 hl1 rv h1 => by
    cases eb : bindTg (.many is) z s1 env with
    | none => rw [eb] at h1; exact h1.elim
    | some env' =>
      rw [eb] at h1
      obtain ⟨σ', hl', hq, _⟩ := tg_ok hs1 rv hl1 eb
      exact hq _ (h1 _ _ g1 Gh.le.rfl hs1 hl')
theorem st_par {i j : Nat} {x y : Str} {px py pt : Pos} {kt k2 : Nat} {pt2 : Pos} (hc : X.calm = true) (hN : X.N.Nodup) (hi : X.N[i]? = some x) (hj : X.N[j]? = some y) (hij : i ≠ j)
    (hx : X.env.scope.names.lookup x = some .local) (hy : X.env.scope.names.lookup y = some .local)
    (hw : swappedStores [.Tuple [.Name x px, .Name y py] kt pt] (.Tuple [a, b] k2 pt2) X.env = pure (some [x, y]))
    (hsw : swapsWithSole [.Tuple [.Name x px, .Name y py] kt pt] (.Tuple [a, b] k2 pt2) pos.line X.env = pure false)
    (h1 : starEach [a, b] X.env = (false, eval a X.env) :: starEach [b] X.env) (h2 : starEach [b] X.env = (false, eval b X.env) :: starEach [] X.env) (ha : PEv X flds a ma) (hb : PEv X flds b mb) :
    PSv X flds (.Assign [.Tuple [.Name x px, .Name y py] kt pt] (.Tuple [a, b] k2 pt2) pos) fun env s => (ma env s).sr env fun x s => (mb env s).sr env fun y s => .nx ((env.set i x).set j y) s :=
  fun W tk _ => ps_imp (ps_par hc hN hi hj hij hx hy (pa_cons (ha W tk) (pa_cons (hb W tk) pa_nil h2) h1) hw hsw) fun D σ H ⟨g, env, s, hs, hl, h⟩ =>
    TM.sr hs hl h fun v H1 g1 z s1 l1 hs1 hl1 rv h1 => TM.sr hs1 hl1 h1 fun v2 H2 g2 z2 s2 l2 hs2 hl2 rv2 h2 =>
      ⟨v, v2, rfl, h2 _ _ g2 Gh.le.rfl hs2 (rl_set (rl_set hl2 (rv.mono l2)) rv2)⟩
theorem st_ret (he : PEv X flds e me) : PSv X flds (.Return (some e) pos) fun env s => (me env s).sr env fun x s => .rt x s :=
  fun W tk _ => ps_imp (ps_ret (he W tk)) fun D σ H ⟨g, env, s, hs, hl, h⟩ => TM.sr hs hl h fun v H1 g1 z s1 l1 hs1 hl1 rv h1 => h1 _ _ g1 Gh.le.rfl hs1 rv
theorem st_ret0 : PSv X flds (.Return none pos) fun _ s => .rt .non s := fun W _ _ => ps_imp ps_retN fun D σ H ⟨g, env, s, hs, hl, h⟩ => h _ _ g Gh.le.rfl hs .non
theorem st_pass : PSv X flds (.Pass pos) fun env s => .nx env s := fun W _ _ => ps_imp ps_pass fun D σ H ⟨g, env, s, hs, hl, h⟩ => h _ _ g Gh.le.rfl hs hl
theorem st_brk : PSv X flds (.Break pos) fun env s => .bk env s := fun W _ _ => ps_imp ps_break fun D σ H ⟨g, env, s, hs, hl, h⟩ => h _ _ g Gh.le.rfl hs hl
theorem st_cnt : PSv X flds (.Continue pos) fun env s => .ct env s := fun W _ _ => ps_imp ps_continue fun D σ H ⟨g, env, s, hs, hl, h⟩ => h _ _ g Gh.le.rfl hs hl
/-! ### o[i] = e -/
theorem rks_put {k : Key} {v : V} {x : PV} (r : RVx X flds g v x) : ∀ {ks : List (Key × V)} {kvs : List (Key × PV)}, RKs X.K X.mg flds g ks kvs → RKs X.K X.mg flds g (putK ks k v) (dputK kvs k x) := by
  have any : ∀ {ks : List (Key × V)} {kvs : List (Key × PV)}, RKs X.K X.mg flds g ks kvs → (ks.any fun kv => decide (kv.1 = k)) = (kvs.any fun kv => decide (kv.1 = k)) := by
    intro ks
    induction ks with
    | nil => intro kvs h; cases kvs with
      | nil => rfl
      | cons _ _ => exact h.elim
    | cons p ps ih => intro kvs h; cases kvs with
      | nil => exact h.elim
      | cons q qs => rw [List.any_cons, List.any_cons, h.1, ih h.2.2]
  have map : ∀ {ks : List (Key × V)} {kvs : List (Key × PV)}, RKs X.K X.mg flds g ks kvs → RKs X.K X.mg flds g (ks.map fun kv => if kv.1 = k then (kv.1, v) else kv) (kvs.map fun kv => if kv.1 = k then (kv.1, x) else kv) := by
    intro ks
    induction ks with
    | nil => intro kvs h; cases kvs with
      | nil => exact trivial
      | cons _ _ => exact h.elim
    | cons p ps ih => intro kvs h; cases kvs with
      | nil => exact h.elim
      | cons q qs =>
        refine ⟨?_, ?_, ih h.2.2⟩
        · dsimp only
          rw [h.1]
          split <;> first | rfl | exact h.1
        · dsimp only
          rw [h.1]
          split <;> first | exact r | exact h.2.1
  have app : ∀ {ks : List (Key × V)} {kvs : List (Key × PV)}, RKs X.K X.mg flds g ks kvs → RKs X.K X.mg flds g (ks ++ [(k, v)]) (kvs ++ [(k, x)]) := by
    intro ks
    induction ks with
    | nil => intro kvs h; cases kvs with
      | nil => exact ⟨rfl, r, trivial⟩
      | cons _ _ => exact h.elim
    | cons p ps ih => intro kvs h; cases kvs with
      | nil => exact h.elim
      | cons q qs => exact ⟨h.1, h.2.1, ih h.2.2⟩
  intro ks kvs h
  unfold putK dputK
  rw [any h]
  split
  · exact map h
  · exact app h
def rSetAny (X : Cx) (flds : Fl) : TSet := fun o i v H Q => rSetL o i v H Q ∨ rSetD o i v H Q
theorem set_any (hu : X.A.units + 1 < cLine) : PSet X (rSetAny X flds) := by
  intro pins s σ H o i v ov iv u Q I ro ri rv h
  rcases h with h | h
  · exact set_list pins s σ H o i v ov iv u Q I ro ri rv h
  · exact set_dict hu pins s σ H o i v ov iv u Q I ro ri rv h
theorem keyOf_ok {y : PV} {k : Key} {v : V} (e : keyOf? y = some k) (r : RVx X flds g v y) : v = kV k := by
  cases r <;> simp only [keyOf?] at e <;> first | cases e; done | skip
  · cases e; rfl
  · cases e; rfl
theorem st_asgi {tpos : Pos} (hu : X.A.units + 1 < cLine) (hsw : swapsWithSole [.Subscript o i tpos] e pos.line X.env = pure false) (hw : swappedStores [.Subscript o i tpos] e X.env = pure none) (h1 : (assignEach [.Subscript o i tpos] X.env).map (·.2) = [assign (.Subscript o i tpos) X.env])
    (has : ∀ v, assign (.Subscript o i tpos) X.env v = (do
      let ov ← holding [v] (eval o X.env)
      let iv ← holding [v, ov] (eval i X.env)
      standAt tpos
      holding [v, ov, iv] (setItem ov iv v)
      release [v, ov, iv] [])) (he : PEv X flds e me) (ho : PEv X flds o mo) (hi : PEv X flds i mi) :
    PSv X flds (.Assign [.Subscript o i tpos] e pos) fun env s => (me env s).sr env fun v s => (mo env s).sr env fun x s => (mi env s).sr env fun y s => match x with
      | .obj n => match s[n]? with
        | some (.lst xs) => match y with
          | .int k => match ixN xs.length k with | some j => .nx env (s.set n (.lst (xs.set j v))) | none => .stk
          | _ => .stk
        | some (.dct kvs) => match keyOf? y with
          | some k => if kvs.length < line then .nx env (s.set n (.dct (dputK kvs k v))) else .stk
          | none => .stk
        | none => .stk
      | _ => .stk :=
  fun W tk _ => ps_imp (ps_asg (he W tk) (pg_sub (ho W tk) (hi W tk) (set_any (flds := flds) hu) has) hsw hw h1) fun D σ H ⟨g, env, s, hs, hl, h⟩ =>
    TM.sr hs hl h fun v H1 g1 z s1 l1 hs1 hl1 rv h1 => TM.sr hs1 hl1 h1 fun ov H2 g2 x s2 l2 hs2 hl2 rx h2 => TM.sr hs2 hl2 h2 fun iv H3 g3 y s3 l3 hs3 hl3 ry h3 => by
      have rv3 := (rv.mono l2).mono l3
      have rx3 := rx.mono l3
      cases rx3 <;> first | exact h3.elim | skip
      rename_i A n hn
      obtain ⟨so, e1, ro⟩ := hs3.there hn
      dsimp only at h3
      rw [e1] at h3
      cases so with
      | lst xs =>
        dsimp only at h3
        cases ry <;> first | exact h3.elim | skip
        rename_i k
        dsimp only at h3
        cases ek : ixN xs.length k with
        | none => rw [ek] at h3; exact h3.elim
        | some j =>
          rw [ek] at h3
          obtain ⟨vs, e2, r⟩ := ro
          refine .inl ⟨A, vs, k, j, rfl, rfl, e2, by rw [r.length]; exact ek, ?_⟩
          exact h3 _ _ g3 Gh.le.rfl (hs3.write hn ⟨_, upd_same, r.set j rv3⟩) hl3
      | dct kvs =>
        dsimp only at h3
        cases ek : keyOf? y with
        | none => rw [ek] at h3; exact h3.elim
        | some k =>
          rw [ek] at h3
          dsimp only at h3
          split at h3
          · rename_i hz
            obtain ⟨ks, e2, r⟩ := ro
            have := keyOf_ok ek ry
            subst this
            refine .inr ⟨A, _, rfl, DPut.k e2 (by rw [rks_len r]; exact hz), ?_⟩
            exact h3 _ _ g3 Gh.le.rfl (hs3.write hn ⟨_, upd_same, rks_put rv3 r⟩) hl3
          · exact h3.elim
/-! ### x += e -/
def aopOf : BOp → Option Operator
  | .add => some .Add
  | .sub => some .Sub
  | _ => none
theorem st_aug {i : Nat} {x : Str} {op : BOp} {o : Operator} {pos' : Pos} (hop : aopOf op = some o) (hN : X.N.Nodup) (hi : X.N[i]? = some x) (hx : Loc X.env.scope x) (hf : X.fn x = true ∨ X.env.scope.names.lookup x = some .local) (he : PEv X flds e me) :
    PSv X flds (.AugAssign (.Name x pos') o e pos) fun env s => match env[i]? with
      | some (.int a) => (me env s).sr env fun y s => augSem op env i a y s
      | _ => .stk := by
  intro W tk _
  have key : ∀ {D : Ends} {σ : L2.St} {H : Hp} {f : Int → Int → Int} {g : Gh} {env : Env} {s : Store} {a : Int}, RSx X flds g H s → RLx X flds g σ env → env[i]? = some (.int a) → (∀ y s, augSem op env i a y s = match y with | .int b => SR.nx (env.set i (.int (f a b))) s | _ => SR.stk) → GoodS X flds g D W ((me env s).sr env fun y s => augSem op env i a y s) → tAug i (TM X flds (RVx X flds) W me) (ipI f) D σ H := fun {D σ H f g env s a} hs hl ev hf h => by
    obtain ⟨u, e1, r1⟩ := hl.2 i _ ev (by intro z; cases z)
    cases r1
    refine ⟨_, e1, TM.sr hs hl h fun w H1 g1 z s1 l1 hs1 hl1 rv h1 => ?_⟩
    rw [hf] at h1
    cases rv <;> first | exact h1.elim | skip
    exact ⟨_, _, rfl, rfl, h1 _ _ g1 Gh.le.rfl hs1 (rl_set hl1 (.int _))⟩
  cases op <;> simp only [aopOf] at hop <;> first | cases hop; done | skip
  · cases hop
    refine ps_imp (ps_aug hN hi hx (he W tk) ip_add hf) fun D σ H ⟨g, env, s, hs, hl, h⟩ => ?_
    dsimp only at h
    split at h
    · rename_i a ev
      exact key hs hl ev (fun y s => by cases y <;> rfl) h
    · exact h.elim
  · cases hop
    refine ps_imp (ps_aug hN hi hx (he W tk) ip_sub hf) fun D σ H ⟨g, env, s, hs, hl, h⟩ => ?_
    dsimp only at h
    split at h
    · rename_i a ev
      exact key hs hl ev (fun y s => by cases y <;> rfl) h
    · exact h.elim
/-! ### if, loops -/
theorem sr_truth {mc : Env → Store → Res PV} {f : Bool → Store → SR} : ((mc env s).sr env fun x s => (Res.of (truth s x) s).sr env f) = (((mc env s).bind fun x s => Res.of (truth s x) s).sr env f) := by
  cases mc env s <;> rfl
theorem st_ife {a b : List Stmt} (hc : PTv X flds c mc) (ha : PSsv X flds a m1) (hb : PSsv X flds b m2) : PSv X flds (.If c a b pos) fun env s => (mc env s).sr env fun x s => (Res.of (truth s x) s).sr env fun t s => if t then m1 env s else m2 env s :=
  fun W tk hp => ps_imp (ps_if (hc W tk) (ha W tk hp) (hb W tk hp)) fun D σ H ⟨g, env, s, hs, hl, h⟩ => by
    have h' : GoodS X flds g D W (((mc env s).bind fun x s => Res.of (truth s x) s).sr env fun t s => if t then m1 env s else m2 env s) := by
      rw [← sr_truth]
      exact h
    exact TM.sr (rel := eqB) (m := fun env s => (mc env s).bind fun x s => Res.of (truth s x) s) (f := fun t s => if t then m1 env s else m2 env s) hs hl h' fun v H1 g1 z s1 l1 hs1 hl1 rv h1 => by
      subst rv
      cases v with
      | true =>
        rw [if_pos rfl] at h1 ⊢
        exact ⟨g1, env, s1, hs1, hl1, h1⟩
      | false =>
        rw [if_neg Bool.false_ne_true] at h1 ⊢
        exact ⟨g1, env, s1, hs1, hl1, h1⟩
theorem st_for {tgi : Tg} {tg iter : Expr} {mit : Env → Store → Res ItV} (hc : X.calm = true) (hg : PG X tg (gTg X.K tgi)) (hfs : ∀ x, foldedSetIterable iter X.env x = pure x) (hi : PIv X flds tg iter mit) (hb : PSsv X flds body m1) :
    PSv X flds (.For tg iter body [] pos) fun env s => (mit env s).sr env fun w s => forLoop (fun x env s => match bindTg tgi x s env with
      | some env' => m1 env' s
      | none => .stk) w.live w.items env s :=
  fun W tk hp => ps_imp (ps_for hp hc (hi W tk) hg (hb W tk hp) hfs) fun D σ H ⟨g, env, s, hs, hl, h⟩ => TM.sr (rel := WalkV X flds) hs hl h fun J H1 g1 w s1 l1 hs1 hl1 hw h1 => by
    let F : PV → Env → Store → SR := fun x env s => match bindTg tgi x s env with
      | some env' => m1 env' s
      | none => .stk
    let Pv : Nat → L2.St → Hp → Prop := fun i σ2 H2 => ∃ g2 env2 s2, g1.le g2 ∧ RSx X flds g2 H2 s2 ∧ RLx X flds g2 σ2 env2 ∧ GoodS X flds g2 D W (forLoop F w.live (w.items.drop i) env2 s2)
    refine ⟨fun i m σ2 H2 => m = w.items.length - i ∧ i ≤ w.items.length ∧ Pv i σ2 H2, ⟨_, rfl, Nat.zero_le _, g1, env, s1, Gh.le.rfl, hs1, hl1, h1⟩, ?_⟩
    rintro i m σ2 H2 ⟨rfl, hi, g2, env2, s2, l2, hs2, hl2, hg2⟩
    have lv : liveOk s2 w.live = true := by
      cases hd : w.items.drop i with
      | nil =>
        rw [hd] at hg2
        unfold forLoop at hg2
        split at hg2
        · assumption
        · exact hg2.elim
      | cons x r =>
        rw [hd] at hg2
        unfold forLoop at hg2
        split at hg2
        · assumption
        · exact hg2.elim
    by_cases hlt : i < w.items.length
    · refine .inr ⟨hw.go g2 H2 s2 i l2.sub hs2 lv hlt, Pv (i + 1), fun σ' H' p => ⟨w.items.length - (i + 1), by omega, rfl, hlt, p⟩, fun x H3 y => ?_⟩
      obtain ⟨g3, l3, hs3, p, ep, rp⟩ := hw.yld g2 H2 s2 i x H3 l2.sub hs2 lv hlt y
      have ed : w.items.drop i = p :: w.items.drop (i + 1) := by
        rw [List.drop_eq_getElem_cons hlt]
        have := List.getElem?_eq_getElem hlt
        rw [ep] at this
        cases this
        rfl
      rw [ed] at hg2
      unfold forLoop at hg2
      rw [if_pos lv] at hg2
      have hg2 := GoodS.mono hg2 l3
      cases eb : bindTg tgi p s2 env2 with
      | none =>
        simp only [F, eb] at hg2
        exact hg2.elim
      | some env' =>
        simp only [F, eb] at hg2
        obtain ⟨σ', hl', hgq, _⟩ := tg_ok hs3 rp (hl2.mono l3) eb
        refine hgq _ ⟨g3, env', s2, hs3, hl', ?_⟩
        cases em : m1 env' s2 with
        | nx env4 s4 =>
          rw [em] at hg2
          exact fun σ4 H4 g4 l4 hs4 hl4 => ⟨g4, env4, s4, l2.trans (l3.trans l4), hs4, hl4, GoodS.mono hg2 l4⟩
        | ct env4 s4 =>
          rw [em] at hg2
          exact fun σ4 H4 g4 l4 hs4 hl4 => ⟨g4, env4, s4, l2.trans (l3.trans l4), hs4, hl4, GoodS.mono hg2 l4⟩
        | bk env4 s4 =>
          rw [em] at hg2
          exact hg2
        | rt v s4 =>
          rw [em] at hg2
          exact hg2
        | exc c env4 s4 =>
          rw [em] at hg2
          exact hg2
        | stk =>
          rw [em] at hg2
          exact hg2
    · have e : i = w.items.length := by omega
      subst e
      refine .inl ⟨hw.stop g2 H2 s2 l2.sub hs2 lv, ?_⟩
      rw [List.drop_length] at hg2
      unfold forLoop at hg2
      rw [if_pos lv] at hg2
      exact hg2 _ _ g2 Gh.le.rfl hs2 hl2
theorem st_whl {n : Nat} (hc : PTv X flds c mc) (hb : PSsv X flds body m1) : PSv X flds (.While c body [] pos) fun env s => whlLoop (fun env s => (mc env s).bind fun x s => Res.of (truth s x) s) m1 n env s :=
  fun W tk hp => ps_imp (ps_while hp (hc W tk) (hb W tk hp)) fun D σ H ⟨g, env, s, hs, hl, h⟩ => by
    let C : Env → Store → Res Bool := fun env s => (mc env s).bind fun x s => Res.of (truth s x) s
    refine ⟨fun m σ2 H2 => ∃ g2 env2 s2, RSx X flds g2 H2 s2 ∧ RLx X flds g2 σ2 env2 ∧ GoodS X flds g2 D W (whlLoop C m1 m env2 s2), ⟨n, g, env, s, hs, hl, h⟩, ?_⟩
    rintro m σ2 H2 ⟨g2, env2, s2, hs2, hl2, h2⟩
    cases m with
    | zero => exact h2.elim
    | succ m =>
      unfold whlLoop at h2
      refine TM.sr (rel := eqB) (m := C) (f := fun t s => if t then
      match m1 env2 s with
      | .nx env' s' => whlLoop C m1 m env' s'
      | .ct env' s' => whlLoop C m1 m env' s'
      | .bk env' s' => .nx env' s'
      | r => r
    else .nx env2 s) hs2 hl2 h2 fun v H3 g3 z s3 l3 hs3 hl3 rv h3 => ?_
      subst rv
      cases v with
      | false =>
        rw [if_neg Bool.false_ne_true] at h3 ⊢
        exact h3 _ _ g3 Gh.le.rfl hs3 hl3
      | true =>
        rw [if_pos rfl] at h3 ⊢
        refine ⟨fun σ' H' => ∃ g2 env2 s2, RSx X flds g2 H' s2 ∧ RLx X flds g2 σ' env2 ∧ GoodS X flds g2 D W (whlLoop C m1 m env2 s2), fun σ' H' p => ⟨m, Nat.lt_succ_self m, p⟩, g3, env2, s3, hs3, hl3, ?_⟩
        cases em : m1 env2 s3 with
        | nx env4 s4 =>
          rw [em] at h3
          exact fun σ4 H4 g4 l4 hs4 hl4 => ⟨g4, env4, s4, hs4, hl4, GoodS.mono h3 l4⟩
        | ct env4 s4 =>
          rw [em] at h3
          exact fun σ4 H4 g4 l4 hs4 hl4 => ⟨g4, env4, s4, hs4, hl4, GoodS.mono h3 l4⟩
        | bk env4 s4 =>
          rw [em] at h3
          exact h3
        | rt v s4 =>
          rw [em] at h3
          exact h3
        | exc c env4 s4 =>
          rw [em] at h3
          exact h3
        | stk =>
          rw [em] at h3
          exact h3
/-- name = [..] on one line -/
theorem st_setLc {bx : Bool} {i : Nat} {y : Str} {py : Pos} {tgi : Tg} {own : List (Str × Nat)} {mt : Env → Store → Res Bool} {me : Env → Store → Res PV} {mi : Env → Store → Res ItV} {elt tg iter : Expr} {ifs : List Expr} {scope : Scope} {pos spos : Pos} (hc : X.calm = true) (hN : X.N.Nodup)
    (hy : X.N[i]? = some y) (hyl : X.env.scope.names.lookup y = some .local) (hsw : swapsWith (.ListComp elt [⟨tg, iter, ifs, 0⟩] scope pos) (some (.Name y py)) spos.line X.env = pure true)
    (hsub : ∀ i ∈ tgSlots tgi, i ∈ own.map (·.2)) (ok : BlkOk X.N X.env.scope scope own) (hs : ∀ x, foldedSetIterable iter X.env x = pure x) (hi : PIv X flds tg iter mi)
    (hg : ∀ (s : Shared) (H : Hp) (C : Addr) (cl : List (Str × Addr)) (fp : List Addr), PG (X.blk s H scope (compEnvC scope cl C X.env) fp) tg (gTg X.K tgi))
    (ht : ∀ (s : Shared) (H : Hp) (C : Addr) (cl : List (Str × Addr)) (fp : List Addr), PTsv (X.blk s H scope (compEnvC scope cl C X.env) fp) flds ifs mt)
    (he : ∀ (s : Shared) (H : Hp) (C : Addr) (cl : List (Str × Addr)) (fp : List Addr), PEv (X.blk s H scope (compEnvC scope cl C X.env) fp) flds elt me) :
    PSv X flds (.Assign [.Name y py] (.ListComp elt [⟨tg, iter, ifs, 0⟩] scope pos) spos) fun env s => ((mi env s).bind fun w s => (compLoop (compF tgi (own.map (·.2)) mt me env) w.live w.items [] s).bind fun xs s => mkL bx (.lst xs) s).sr env fun x s => .nx (env.set i x) s :=
  fun W tk _ => ps_imp (ps_setLc (tt := TM X flds eqB (fun _ _ _ _ => False) mt) (te := TM X flds (RVx X flds) (fun _ _ _ _ => False) me) hc hN hy hyl hsw (hi W tk) ok hg (fun s H C cl fp => ht s H C cl fp _ takes_blk) (fun s H C cl fp => he s H C cl fp _ takes_blk) hs)
    fun D σ H ⟨g, env, s, hs, hl, h⟩ => by
      show tLc _ _ _ _ _ σ H fun x H1 => gName i x σ H1 D.nx
      refine comp_tm (bx := bx) hsub ?_
      exact TM.sr (rel := RVx X flds) (R := fun x H1 => gName i x σ H1 D.nx) (m := fun env s => (mi env s).bind fun w s => (compLoop (compF tgi (own.map (·.2)) mt me env) w.live w.items [] s).bind fun xs s => mkL bx (.lst xs) s) hs hl h fun v H1 g1 z s1 l1 hs1 hl1 rv h1 => h1 _ _ g1 Gh.le.rfl hs1 (rl_set hl1 rv)
end
end MP

/-! Errors: raise, try. -/
namespace MP
open PySem PySem.Spec PyProof.Rows L2
/-- an error's class without attributes of its own -/
structure ErrC (K : PySem.W.Frag) (C : Addr) : Prop where
  base : ∃ (bmB : List Value) (B newId initId : String), ExcBaseFacts B newId initId bmB ∧ PySem.W.excIn K C bmB newId = true
  keep : PySem.W.keepIn K (.ref C) = true
  sub : PySem.W.subIn K (.ref C) (.type "BaseException") = some true
  ty : PySem.W.typeIn K (.ref C) = some (.type "type")
section
variable {X : Cx} {flds : Fl}
theorem pmk_own0 {C : Addr} {x : Str} {p pos : Pos} (c : ErrC X.K C) (gC : X.mg x = some (.ref C)) (hg : Gl X x) (hdb : (x == ("__debug__" : Str)) = false) :
    PMk X (.Call (.Name x p) [] [] pos) (fun _ H Q => Q (.ref C) none H) := by
  intro pins s σ H Q I h
  obtain ⟨bmB, B, newId, initId, F, q⟩ := c.base
  refine wpAny_Call_Name_kw (ld_glob I hg gC ?_ hdb)
  refine PySem.W.callWith_K0 I.kIn c.keep ?_
  show wpAny _ _ (call (.ref C) []) _ _ _
  obtain ⟨bm, N, nm, qn, bs, hdct, sn, sub, ab, col, dd, k0, k1, k2, k3, k5, mN, hC, hN, hni, T⟩ := exc_obj I.kIn q
  refine wpAny_call_exc_subT F T hC hN hni (fun h' e hm => ?_) (Nat.zero_le _)
  exact mk_of I hm (raises_own c.sub c.ty) h (I.hok.gone hm.new)
theorem st_raise0 {C : Addr} {x : Str} {p pos pos' : Pos} (hc : X.calm = true) (c : ErrC X.K C) (gC : X.mg x = some (.ref C)) (hf : flds x = []) (hg : Gl X x) (hdb : (x == ("__debug__" : Str)) = false) :
    PSv X flds (.Raise (some (.Call (.Name x p) [] [] pos)) none pos') fun env s => .exc (.exc x []) env s :=
  fun W tk _ => ps_imp (ps_raise hc tk (pmk_own0 c gC hg hdb)) fun D σ H ⟨g, env, s, hs, hl, h⟩ => h _ _ σ H g Gh.le.rfl hs hl ⟨C, gC, rfl, .inl ⟨hf, rfl, rfl⟩⟩

/-! ### try .. except X as n, the error held -/
theorem Inv.landedX {pins : List (Addr × Obj)} {σ : L2.St} {H : Hp} {sI s' : Shared} {B : Heap} {a : Addr} {o : HO} (I : Inv X pins σ H sI) (nb : ∀ b o, sI.heap.get? b = some o → b ∉ frs X.stack → B.get? b = some o) (st : B.StaysIn s'.heap) (up : sI.heap.UpToSlots s'.heap)
    (os : s'.os = sI.os) (ag : AllBare s'.gens) (na : H a = none) (nI : sI.heap.get? a = none) (new : ObjOk X.prog X.w (upd H a o) s'.heap a o) : Inv X pins σ (upd H a o) s' := by
  have nf : ∀ b ∈ frs X.stack, ∀ o, sI.heap.get? b = some o → ∃ sl, s'.heap.get? b = some { o with slots := sl } := fun b hb o e => by
    obtain ⟨_, o', e', hd⟩ := I.stack.mem hb
    rw [e] at e'; cases e'
    exact up b o e hd
  have hok : HOk X.prog X.w (upd H a o) s'.heap := fun b u e => by
    by_cases hb : b = a
    · subst hb
      rw [upd_same] at e
      cases e
      exact new
    · rw [upd_ne hb] at e
      exact (((I.inGround nb).kept st) b u e).stay (fun c v _ q => q) (fun c q => by rw [upd_ne (ne_of_none q na)]; exact q) fun c xs q => by rw [upd_ne (ne_of_none q na)]; exact q
  have J := I.call (ch := []) (h' := s'.heap) (g' := s'.gens) (t' := s'.toks) (d' := s'.drawn) (H' := upd H a o)
    ⟨fun b o e _ hb _ => st b o (nb b o e hb), fun b o e _ hb _ => nf b hb o e, fun b u e n _ => by rw [upd_ne (fun z => by rw [z, nI] at e; cases e)]; exact n, fun b o e _ => by
      by_cases hb : b ∈ frs X.stack
      · obtain ⟨sl, q⟩ := nf b hb o e
        exact ⟨_, q⟩
      · exact ⟨o, st b o (nb b o e hb)⟩, fun b xs q => by rw [upd_ne (ne_of_none q na)]; exact q, fun b u xs q => by rw [upd_ne (ne_of_none q na)]; exact q, fun b ps q => ⟨#[], by rw [upd_ne (ne_of_none q na), q]; simp⟩⟩
    hok ag (fun _ z => nomatch z)
  obtain ⟨a1, a2, a3, a4, a5⟩ := s'
  have e5 : a5 = sI.os := os
  subst e5
  exact J
theorem Inv.suite0 {pins : List (Addr × Obj)} {σ : L2.St} {H : Hp} {s : Shared} (I : Inv X pins σ H s) (a : Addr) : Inv (X.suite a (X.pn ++ pins)) [] σ H s :=
  ⟨I.ok.suite _ _, I.os, I.bare, I.base, I.loc, I.cell, I.free, I.freeC, fun p hp => by
    have hp' : p ∈ X.pn ++ pins := by rw [List.append_nil] at hp; exact hp
    exact I.pin p hp', I.hok, I.len⟩
theorem Inv.unsuite0 {pins : List (Addr × Obj)} {σ : L2.St} {H : Hp} {s : Shared} {a : Addr} {pn' : List (Addr × Obj)} (I : Inv (X.suite a (X.pn ++ pins)) pn' σ H s) (ok : X.Ok) : Inv X pins σ H s :=
  ⟨ok, I.os, I.bare, I.base, I.loc, I.cell, I.free, I.freeC, fun p hp => I.pin p (List.mem_append_left _ hp), I.hok, I.len⟩
def wAsX (K : PySem.W.Frag) (c : Value) (i : Nat) (ts : TS) (Wout : WX) (D : Ends) : WX := fun cls d σ H =>
  ∃ b, PySem.W.exmOne K cls c = some b ∧ (b = true → ∀ a, H a = none → ts { nx := fun σ' H' => D.nx (σ'.set i none) H', rt := D.rt, bk := fun σ' H' => D.bk (σ'.set i none) H', ct := fun σ' H' => D.ct (σ'.set i none) H' } (σ.set i (some (.ref a))) (upd H a (ExH cls d a))) ∧
    (b = false → Wout cls d σ H)
theorem ps_try_asX {x n : Str} {c : Value} {i : Nat} {body suite : List Stmt} {b₀ : Stmt} {np pos pos' : Pos} {tb : WX → TS} {ts : TS} {Wout : WX} (hs : X.stack = X.env :: X.outer) (hf : X.env.frame = some X.env.locals) (hN : X.N.Nodup) (hi : X.N[i]? = some n) (hln : X.env.kindOf n = some .local) (hc : Names X x c) (tk : Takes X Wout)
    (hb : ∀ (W : WX) (pn : List (Addr × Obj)) (xe : Value → Shared → Prop), Takes (X.tr pn xe) W → PassesOwn (model X.prog X.w) X.A X.env xe → PSs (X.tr pn xe) body (tb W))
    (hsu : ∀ (a : Addr) (pn : List (Addr × Obj)), PSs (X.suite a pn) (b₀ :: suite) ts) :
    PS X (.Try body [.ExceptHandler (some (.Name x np)) (some n) (b₀ :: suite) pos'] [] [] pos) (fun D σ H => tb (wAsX X.K c i ts Wout D) D σ H) := by
  refine ⟨fun pins s σ H D I h => ?_⟩
  have ok := I.ok
  have hfr : X.A.frames = some (X.env :: X.outer) := by rw [ok.frames, hs]
  have hloc : L2.Loc X.env.scope n := .inl hln
  refine wpAny_Try_except ?_
  refine wpAny_mono ((hb (wAsX X.K c i ts Wout D) (X.pn ++ pins) (fun e s₁ => wpAny (model X.prog X.w) X.A (noteFrame e X.env) (fun _ s₂ => wpAny (model X.prog X.w) X.A (setFlight e none) (fun _ s₃ =>
    wpAny (model X.prog X.w) X.A (handleBy e X.env [.ExceptHandler (some (.Name x np)) (some n) (b₀ :: suite) pos']) (SP X pins D) X.xe s₃) X.xe s₂) X.xe s₁) (fun u s' xx => ?_) PassesOwn.looking).run [] s σ H D (I.toTry _) h) (fun f s1 hsp => ?_) (fun e s1 he => he)
  · obtain ⟨a, B, sI, pins', σ', H', cls, d, rfl, J', nb, up, sky, na, os, ag, b, hb1, hyes, hno⟩ := xx
    have J : Inv X pins σ' H' sI := J'.ofTry ok
    have sky' : Sky B (X.env :: X.outer) a (Zc cls d) X.env.locals s'.heap := by rw [← hs]; exact sky
    show wpAny (model X.prog X.w) X.A (noteFrame (.ref a) X.env) _ _ _
    refine Sky.land Zc.steady hfr hf sky' fun h3 fl3 up3 => ?_
    have J3 : Inv X pins σ' H' { s' with heap := h3 } := J.landed nb fl3.1 (up.trans up3) os ag
    obtain ⟨oe3, vs3, he3, hz3, hd3⟩ := fl3.there
    have notFr : ∀ {h : Heap} {o : Obj} {vs : Array Value}, h.FunFrames B (X.env :: X.outer) → h.get? a = some o → o.data = .fields vs → a ∉ frs (X.env :: X.outer) := fun {h o vs} ff e dd hm => by
      obtain ⟨_, o', e', hnf⟩ := ff.mem hm
      rw [e] at e'; cases e'
      exact hnf _ dd
    have nfr := notFr fl3.2.2.1 he3 hd3
    have nL : a ≠ X.env.locals := fun z => nfr (List.mem_filterMap.mpr ⟨X.env, List.mem_cons_self, by rw [hf, z]⟩)
    have nF : a ∉ X.fs := fun hm => by
      obtain ⟨e, he, q⟩ := List.mem_filterMap.mp hm
      exact nfr (List.mem_filterMap.mpr ⟨e, List.mem_cons_of_mem _ he, q⟩)
    have nI : sI.heap.get? a = none := by
      cases e : sI.heap.get? a with
      | none => rfl
      | some o =>
        have := nb a o e (by rw [hs]; exact nfr)
        rw [fl3.2.1] at this
        cases this
    have S3 := J3.suite he3 hd3 na nL nF
    refine wpAny_handleBy_cons (codeAny_handlers_test ?_) (by intro q; cases q)
    have LT : PySem.W.Looks (model X.prog X.w) h3 (typeOf (.ref a)) cls := fun A Q E s k q => wpAny_typeOf_ref (k _ _ he3) (by rw [hz3.1]; exact q)
    have LM := PySem.W.exm_one (M := model X.prog X.w) (J3.kIn) LT hb1
    have test : ∀ {Q : Value → Shared → Prop} {E : Value → Shared → Prop}, Q c { s' with heap := h3 } → wpAny (model X.prog X.w) (X.A.mark (some (.ref a))) (eval (.Name x np) X.env) Q E { s' with heap := h3 } := fun {Q E} q => by
      obtain ⟨hg, hdbg, hm | ⟨hm, hv, hnn⟩⟩ := hc
      · exact ld_glob (X := X.suite a ((a, oe3) :: (X.pn ++ pins))) S3 hg hm q hdbg
      · exact ld_blt (X := X.suite a ((a, oe3) :: (X.pn ++ pins))) S3 hg hm hv q hnn hdbg
    refine test (LM.here ?_)
    cases b with
    | true =>
      refine codeAny_handlers_suite_as ?_
      refine HandSPX.lands_againZ fl3 fun h4 fl4 up4 => ?_
      obtain ⟨oe4, vs4, he4, hz4, hd4⟩ := fl4.there
      have new : ObjOk X.prog X.w (upd H' a (ExH cls d a)) h4 a (ExH cls d a) := ⟨⟨oe4, vs4, he4, hz4, hd4⟩, ⟨oe4, he4⟩, fun _ _ ⟨o, v, q, r⟩ k => ⟨o, v, k o q, r⟩⟩
      have J4 : Inv X pins σ' (upd H' a (ExH cls d a)) { s' with heap := h4 } := Inv.landedX (s' := { s' with heap := h4 }) J nb fl4.1 ((up.trans up3).trans up4) os ag na nI new
      have S4 := Inv.suite0 J4 a
      refine store_ok (X := X.suite a (X.pn ++ pins)) (v := .ref a) S4 hN hi hloc rfl (fun s5 S5 => ?_) (.inr hln)
      refine wpAny_mono ((hsu a (X.pn ++ pins)).run [] s5 _ _ _ S5 (hyes rfl a na)) (fun f s6 hsp => ?_) (fun _ _ z => False.elim z)
      have end_ : ∀ {σ6 : L2.St} {H6 : Hp} {Q : Shared → Prop}, Inv (X.suite a (X.pn ++ pins)) [] σ6 H6 s6 → (∀ s7, Inv X pins (σ6.set i none) H6 s7 → Q s7) →
          wpAny (model X.prog X.w) X.A (do bindName X.env n .none; unbindBehindTheSuite X.env n pos') (fun _ s7 => Q s7) X.xe s6 := fun {σ6 H6 Q} S6 hq => gone_ok (Inv.unsuite0 S6 ok) hN hi hln hq
      cases f with
      | next =>
        obtain ⟨σ6, H6, S6, q6⟩ := hsp
        exact end_ S6 fun s7 J7 => ⟨_, _, J7, q6⟩
      | brk =>
        obtain ⟨σ6, H6, S6, q6⟩ := hsp
        exact end_ S6 fun s7 J7 => ⟨_, _, J7, q6⟩
      | cont =>
        obtain ⟨σ6, H6, S6, q6⟩ := hsp
        exact end_ S6 fun s7 J7 => ⟨_, _, J7, q6⟩
      | ret u =>
        obtain ⟨v6, σ6, H6, S6, r6, q6⟩ := hsp
        exact end_ S6 fun s7 J7 => ⟨_, _, _, J7, r6, q6⟩
    | false =>
      show wpAny _ X.A (handleBy (.ref a) X.env []) _ _ _
      refine wpAny_handleBy_nil ?_
      obtain ⟨k1, k2, k3, oe, vs, T, oT, ts', he, hz, hd, h1, hr⟩ := id fl3
      unfold PySem.passOn
      refine wpAny_bind (wpAny_field he hd h1 ?_)
      rw [if_neg (show ¬ ((Value.ref T == Value.none) = true) from by simp)]
      have fin : wpAny (model X.prog X.w) X.A (setFlight (.ref a) X.env.frame) (fun _ s4 => wpAny (model X.prog X.w) X.A (throw (.ref a) : Sem Flow) (SP X pins D) X.xe s4) X.xe { s' with heap := h3 } := by
        rw [hf]
        refine HandSPX.setFlight_upZ fl3 fun h4 hh4 up4 => wpAny_throw (tk _ _ ?_)
        exact ⟨a, B, sI, pins, σ', H', cls, d, rfl, J, nb, (up.trans up3).trans up4, .inr (.inr (by rw [hs]; exact hh4)), na, os, ag, hno rfl⟩
      first
        | exact wpAny_bind (wpAny_pure (wpAny_bind fin))
        | exact wpAny_bind fin
  · cases f with
    | next =>
      obtain ⟨σ', H', J', q⟩ := hsp
      exact wpAny_execs_nil ⟨σ', H', J'.ofTry ok, q⟩
    | brk =>
      obtain ⟨σ', H', J', q⟩ := hsp
      exact ⟨σ', H', J'.ofTry ok, q⟩
    | cont =>
      obtain ⟨σ', H', J', q⟩ := hsp
      exact ⟨σ', H', J'.ofTry ok, q⟩
    | ret u =>
      obtain ⟨v, σ', H', J', r, q⟩ := hsp
      exact ⟨v, σ', H', J'.ofTry ok, r, q⟩
theorem held {g : Gh} {H : Hp} {s : Store} {cls : Value} {d : Option Addr} {x : PV} {a : Addr} (hs : RSx X flds g H s) (hx : RX X.K X.mg flds g cls d x) (ha : H a = none) :
    ∃ g', g.le g' ∧ RSx X flds g' (upd H a (ExH cls d a)) s ∧ RVx X flds g' (.ref a) x := by
  obtain ⟨l, hs'⟩ := hs.frozen (ExH cls d a) ha (by intro _ z; unfold ExH at z; cases z)
  refine ⟨_, l, hs', ?_⟩
  cases x <;> first | exact hx.elim | skip
  rename_i x xs
  obtain ⟨C, h1, h2, h3⟩ := hx
  subst h2
  rcases h3 with ⟨h3, h4, h5⟩ | ⟨h3, dd, fs, vs, h4, h5, h6, h7, h8⟩
  · subst h4 h5
    exact .exc0 h1 h3 (by show upd g.F a _ a = _; exact upd_same)
  · subst h4
    exact .exc1 h1 h3 (by show upd g.F a _ a = _; exact upd_same) (l.F _ _ h5) h6 h7 (h8.mono l)
theorem st_try {sub : Str → Str → Option Bool} {x n : Str} {C : Addr} {i : Nat} {body suite : List Stmt} {b₀ : Stmt} {np pos pos' : Pos} {mb mh : Env → Store → SR} (F : XF X.K X.mg sub) (hs : X.stack = X.env :: X.outer) (hf : X.env.frame = some X.env.locals) (hN : X.N.Nodup) (hi : X.N[i]? = some n)
    (hln : X.env.kindOf n = some .local) (hg : Gl X x) (hdb : (x == ("__debug__" : Str)) = false) (gC : X.mg x = some (.ref C))
    (hb : ∀ (pn : List (Addr × Obj)) (xe : Value → Shared → Prop), PSsv (X.tr pn xe) flds body mb) (hsu : ∀ (a : Addr) (pn : List (Addr × Obj)), PSsv (X.suite a pn) flds (b₀ :: suite) mh) :
    PSv X flds (.Try body [.ExceptHandler (some (.Name x np)) (some n) (b₀ :: suite) pos'] [] [] pos) fun env s => tryAs sub x i mh (mb env s) :=
  fun W tk hp => ps_imp (ps_try_asX (tb := fun W => SM X flds W mb) (ts := SM X flds (fun _ _ _ _ => False) mh) hs hf hN hi hln ⟨hg, hdb, .inl gC⟩ tk (fun W pn xe tk' hp' => hb pn xe W tk' hp')
      (fun a pn => hsu a pn _ (fun u s' ⟨a, B, sI, pins, σ, H, cls, d, e, I, nb, up, sky, na, os, ag, w⟩ => w.elim) PassesOwn.never)) fun D σ H ⟨g, env, s, hs, hl, h⟩ => by
    refine ⟨g, env, s, hs, hl, ?_⟩
    have h : GoodS X flds g D W (tryAs sub x i mh (mb env s)) := h
    cases e : mb env s with
    | nx env' s' => rw [e] at h; exact h
    | rt v s' => rw [e] at h; exact h
    | bk env' s' => rw [e] at h; exact h
    | ct env' s' => rw [e] at h; exact h
    | stk => rw [e] at h; exact h.elim
    | exc ex env' s' =>
      rw [e] at h
      intro cls d σ1 H1 g1 l1 hs1 hl1 hx
      cases ex <;> first | exact h.elim | skip
      rename_i dn vs
      unfold tryAs at h
      dsimp only at h
      cases eb : sub dn x with
      | none => rw [eb] at h; exact h.elim
      | some b =>
        rw [eb] at h
        obtain ⟨D', C', h1, h2, h3, h4, h5, _⟩ := F.own dn x b eb
        rw [gC] at h2
        cases h2
        obtain ⟨D'', q1, q2, _⟩ := id hx
        rw [h1] at q1
        cases q1
        subst q2
        refine ⟨b, h5, fun hb => ?_, fun hb => ?_⟩
        · subst hb
          intro a ha
          obtain ⟨g2, l2, hs2, rv2⟩ := held hs1 hx ha
          refine ⟨g2, env'.set i (.exc dn vs), s', hs2, rl_set (hl1.mono l2) rv2, ?_⟩
          dsimp only at h
          cases eh : mh (env'.set i (.exc dn vs)) s' with
          | nx env4 s4 =>
            rw [eh] at h
            exact fun σ4 H4 g4 l4 hs4 hl4 => h _ _ g4 ((l1.trans l2).trans l4) hs4 (rl_und hl4)
          | bk env4 s4 =>
            rw [eh] at h
            exact fun σ4 H4 g4 l4 hs4 hl4 => h _ _ g4 ((l1.trans l2).trans l4) hs4 (rl_und hl4)
          | ct env4 s4 =>
            rw [eh] at h
            exact fun σ4 H4 g4 l4 hs4 hl4 => h _ _ g4 ((l1.trans l2).trans l4) hs4 (rl_und hl4)
          | rt v s4 =>
            rw [eh] at h
            exact fun v4 H4 g4 l4 hs4 r4 => h _ _ g4 ((l1.trans l2).trans l4) hs4 r4
          | exc c4 env4 s4 => rw [eh] at h; exact h.elim
          | stk => rw [eh] at h; exact h.elim
        · subst hb
          exact h _ d σ1 H1 g1 l1 hs1 hl1 hx
end
end MP

/-! Defs: what they promise, calls. -/
namespace MP
open PySem PySem.Spec PyProof.Rows L2
section
variable {K : PySem.W.Frag} {mg : Str → Option Value} {flds : Fl} {g g' g2 : Gh} {H H0 H' : Hp} {s s' : Store}
mutual
theorem rv_inb : ∀ {v : V} {x : PV}, RV K mg flds g v x → x.inb g.μ.length = true
  | _, _, .non => by simp [PV.inb]
  | _, _, .bl b => by simp [PV.inb]
  | _, _, .int i => by simp [PV.inb]
  | _, _, .str z => by simp [PV.inb]
  | _, _, .tup h r => by simp [PV.inb]; exact rvs_inb r
  | _, _, .lst h r => by simp [PV.inb]; exact rvs_inb r
  | _, _, .wl h r => by simp [PV.inb]; exact rvs_inb r
  | _, _, .obj h => by simp [PV.inb]; exact (List.getElem?_eq_some_iff.mp h).1
  | _, _, .fn h => by simp [PV.inb]
  | _, _, .ty T => by simp [PV.inb]
  | _, _, .cls h => by simp [PV.inb]
  | _, _, .exc0 h1 h2 h3 => by simp [PV.inb]
  | _, _, .exc1 h1 h2 h3 h4 h5 h6 r => by simp [PV.inb]; exact rvs_inb r
theorem rvs_inb : ∀ {vs : List V} {xs : List PV}, RVs K mg flds g vs xs → PV.inbs g.μ.length xs = true
  | _, _, .nil => by simp
  | _, _, .cons h r => by simp [rv_inb h, rvs_inb r]
end
/-- fewer places, more that is frozen -/
structure Cut (n : Nat) (g g2 : Gh) : Prop where
  F : ∀ a o, g.F a = some o → g2.F a = some o
  μ : ∀ m, m < n → g2.μ[m]? = g.μ[m]?
mutual
theorem rv_cut {n : Nat} (c : Cut n g g2) : ∀ {v : V} {x : PV}, RV K mg flds g v x → x.inb n = true → RV K mg flds g2 v x
  | _, _, .non, _ => .non
  | _, _, .bl b, _ => .bl b
  | _, _, .int i, _ => .int i
  | _, _, .str z, _ => .str z
  | _, _, .tup h r, e => .tup (sqt_mono c.F h) (rvs_cut c r (by simpa [PV.inb] using e))
  | _, _, .lst h r, e => .lst (c.F _ _ h) (rvs_cut c r (by simpa [PV.inb] using e))
  | _, _, .wl h r, e => .wl (sql_mono c.F h) (rvs_cut c r (by simpa [PV.inb] using e))
  | _, _, .obj h, e => .obj (by rw [c.μ _ (by simpa [PV.inb] using e)]; exact h)
  | _, _, .fn h, _ => .fn h
  | _, _, .ty T, _ => .ty T
  | _, _, .cls h, _ => .cls h
  | _, _, .exc0 h1 h2 h3, _ => .exc0 h1 h2 (c.F _ _ h3)
  | _, _, .exc1 h1 h2 h3 h4 h5 h6 r, e => .exc1 h1 h2 (c.F _ _ h3) (c.F _ _ h4) h5 h6 (rvs_cut c r (by simpa [PV.inb] using e))
theorem rvs_cut {n : Nat} (c : Cut n g g2) : ∀ {vs : List V} {xs : List PV}, RVs K mg flds g vs xs → PV.inbs n xs = true → RVs K mg flds g2 vs xs
  | _, _, .nil, _ => .nil
  | _, _, .cons h r, e => by
    rw [inbs_cons, Bool.and_eq_true] at e
    exact .cons (rv_cut c h e.1) (rvs_cut c r e.2)
end
theorem rks_inb : ∀ {ks : List (Key × V)} {kvs : List (Key × PV)}, RKs K mg flds g ks kvs → (kvs.all fun p => PV.inb g.μ.length p.2) = true
  | [], [], _ => rfl
  | [], _ :: _, h => h.elim
  | _ :: _, [], h => h.elim
  | _ :: _, _ :: _, h => by rw [List.all_cons, rv_inb h.2.1, rks_inb h.2.2]; rfl
theorem rks_cut {n : Nat} (c : Cut n g g2) : ∀ {ks : List (Key × V)} {kvs : List (Key × PV)}, RKs K mg flds g ks kvs → (kvs.all fun p => PV.inb n p.2) = true → RKs K mg flds g2 ks kvs
  | [], [], _, _ => trivial
  | [], _ :: _, h, _ => h.elim
  | _ :: _, [], h, _ => h.elim
  | _ :: _, _ :: _, h, e => by
    rw [List.all_cons, Bool.and_eq_true] at e
    exact ⟨h.1, rv_cut c h.2.1 e.1, rks_cut c h.2.2 e.2⟩
theorem ro_inb {a : Addr} {o : SO} (h : RO K mg flds g H a o) : SO.inb g.μ.length o = true := by
  cases o with
  | lst xs => obtain ⟨vs, _, r⟩ := h; exact rvs_inb r
  | dct xs => obtain ⟨vs, _, r⟩ := h; exact rks_inb r
theorem ro_cut {n : Nat} (c : Cut n g g2) {a : Addr} {o : SO} (h : RO K mg flds g H a o) (e : SO.inb n o = true) : RO K mg flds g2 H a o := by
  cases o with
  | lst xs => obtain ⟨vs, q, r⟩ := h; exact ⟨vs, q, rvs_cut c r e⟩
  | dct xs => obtain ⟨vs, q, r⟩ := h; exact ⟨vs, q, rks_cut c r e⟩
/-- what is left of the places when a def hands back -/
def cutG (n : Nat) (g : Gh) (H : Hp) : Gh := ⟨fun a => match g.F a with | some o => some o | none => if a ∈ g.μ.drop n then H a else none, g.μ.take n, g.R⟩
theorem cutG_F {n : Nat} {a : Addr} {o : HO} (h : g.F a = some o) : (cutG n g H).F a = some o := by
  show (match g.F a with | some o => some o | none => if a ∈ g.μ.drop n then H a else none) = some o
  rw [h]
theorem cutG_M {n : Nat} {a : Addr} (h : g.F a = none) (m : a ∈ g.μ.drop n) : (cutG n g H).F a = H a := by
  show (match g.F a with | some o => some o | none => if a ∈ g.μ.drop n then H a else none) = H a
  rw [h, if_pos m]
theorem cutG_N {n : Nat} {a : Addr} (h : g.F a = none) (m : a ∉ g.μ.drop n) : (cutG n g H).F a = none := by
  show (match g.F a with | some o => some o | none => if a ∈ g.μ.drop n then H a else none) = none
  rw [h, if_neg m]
theorem cut_cutG (n : Nat) : Cut n g (cutG n g H) := ⟨fun a o h => cutG_F h, fun m hm => by show (g.μ.take n)[m]? = _; rw [List.getElem?_take, if_pos hm]⟩
theorem cutG_le (l : g.le g') (hs0 : RS K mg flds g H0 s) : g.le (cutG s.length g' H') := ⟨fun a o h => cutG_F (l.F a o h), by
  show g.μ <+: g'.μ.take s.length
  obtain ⟨t, ht⟩ := l.μ
  rw [← ht, ← hs0.len, List.take_left' rfl]
  exact List.prefix_refl _, l.R⟩
theorem cutG_rs {n : Nat} (hs : RS K mg flds g' H' s') (hin : ∀ o ∈ s'.take n, SO.inb n o = true) : RS K mg flds (cutG n g' H') H' (s'.take n) := by
  have nd : ∀ a, a ∈ g'.μ.take n → a ∉ g'.μ.drop n := fun a h1 h2 => by
    have := hs.nd
    rw [← List.take_append_drop n g'.μ, List.nodup_append] at this
    exact this.2.2 a h1 a h2 rfl
  have cases_ : ∀ a o, (cutG n g' H').F a = some o → g'.F a = some o ∨ (a ∈ g'.μ.drop n ∧ H' a = some o) := fun a o e => by
    cases e2 : g'.F a with
    | some u => rw [cutG_F e2] at e; exact .inl e
    | none =>
      by_cases hm : a ∈ g'.μ.drop n
      · rw [cutG_M e2 hm] at e
        exact .inr ⟨hm, e⟩
      · rw [cutG_N e2 hm] at e
        cases e
  refine ⟨fun a o e => ?_, ?_, ?_, fun a ha => ?_, hs.rs, fun a o e => ?_, fun a ha => hs.sepM a (List.mem_of_mem_take ha), hs.tab, fun a ps e => ?_, hs.ntR, fun m a o e1 e2 => ?_⟩
  · rcases cases_ a o e with h | ⟨_, h⟩
    · exact hs.fr a o h
    · exact h
  · show (g'.μ.take n).length = (s'.take n).length
    rw [List.length_take, List.length_take, hs.len]
  · show (g'.μ.take n).Nodup
    exact hs.nd.sublist (List.take_sublist _ _)
  · exact cutG_N (hs.sep a (List.mem_of_mem_take ha)) (nd a ha)
  · refine cutG_N (hs.sepF a o e) fun hm => ?_
    have := hs.sepM a (List.mem_of_mem_drop hm)
    have e : g'.R a = some o := e
    rw [e] at this
    cases this
  · rcases cases_ a _ e with h | ⟨hm, h⟩
    · exact hs.ntF a ps h
    · obtain ⟨m, hm⟩ := List.mem_iff_getElem?.mp (List.mem_of_mem_drop hm)
      obtain ⟨o, _, ro⟩ := hs.there hm
      obtain ⟨u, p1, p2, _⟩ := ro_plain ro
      rw [h] at p1
      exact p2 ps (Option.some.inj p1).symm
  · have e1 : (g'.μ.take n)[m]? = some a := e1
    have hm : m < n := by
      have := (List.getElem?_eq_some_iff.mp e1).1
      rw [List.length_take] at this
      omega
    have e3 := e2
    rw [List.getElem?_take, if_pos hm] at e1 e2
    exact ro_cut (cut_cutG n) (hs.ob m a o e1 e2) (hin o (List.mem_of_getElem? e3))
mutual
theorem freeze_ok {n : Nat} (hs : RS K mg flds g' H' s') : ∀ (k : Nat) {v : V} {x y : PV}, RV K mg flds g' v x → freeze n s' k x = some y → RV K mg flds (cutG n g' H') v y
  | 0, v, x, y, r, e => by
    unfold freeze at e
    split at e
    · rename_i h
      cases e
      exact rv_cut (cut_cutG n) r h
    · cases e
  | k + 1, v, x, y, r, e => by
    unfold freeze at e
    split at e
    · rename_i h
      cases e
      exact rv_cut (cut_cutG n) r h
    · rename_i hni
      split at e
      · rename_i m
        cases r with
        | @obj a _ hm =>
        obtain ⟨o, e1, ro⟩ := hs.there hm
        rw [e1] at e
        cases o with
        | dct _ => cases e
        | lst xs =>
          obtain ⟨ys, e2, e3⟩ := Option.map_eq_some_iff.mp e
          subst e3
          obtain ⟨vs, e4, rs⟩ := ro
          have hmn : n ≤ m := by
            simp only [PV.inb, decide_eq_true_eq] at hni
            omega
          have hF : g'.F a = none := hs.sep a (List.mem_iff_getElem?.mpr ⟨m, hm⟩)
          have hd : a ∈ g'.μ.drop n := List.mem_iff_getElem?.mpr ⟨m - n, by rw [List.getElem?_drop, show n + (m - n) = m by omega]; exact hm⟩
          exact .lst (by rw [cutG_M hF hd]; exact e4) (freezes_ok hs k rs e2)
      · rename_i xs
        cases r with
        | tup q rs =>
        obtain ⟨ys, e2, e3⟩ := Option.map_eq_some_iff.mp e
        subst e3
        exact .tup (sqt_mono (fun a o h => cutG_F h) q) (freezes_ok hs k rs e2)
      · cases e
theorem freezes_ok {n : Nat} (hs : RS K mg flds g' H' s') (k : Nat) : ∀ {vs : List V} {xs ys : List PV}, RVs K mg flds g' vs xs → xs.mapM (freeze n s' k) = some ys → RVs K mg flds (cutG n g' H') vs ys
  | _, [], ys, .nil, e => by
    rw [List.mapM_nil] at e
    cases e
    exact .nil
  | _, x :: xs, ys, .cons r rs, e => by
    rw [List.mapM_cons] at e
    cases e1 : freeze n s' k x with
    | none => rw [e1] at e; cases e
    | some y =>
      rw [e1] at e
      cases e2 : xs.mapM (freeze n s' k) with
      | none => rw [e2] at e; cases e
      | some zs =>
        rw [e2] at e
        cases e
        exact .cons (freeze_ok hs k r e1) (freezes_ok hs k rs e2)
end
theorem freeze_exc {n k : Nat} {d : Str} {ws : List PV} {y : PV} (e : freeze n s' k (.exc d ws) = some y) : y = .exc d ws ∧ PV.inbs n ws = true := by
  cases k with
  | zero =>
    unfold freeze at e
    split at e
    · rename_i h
      cases e
      exact ⟨rfl, by simpa [PV.inb] using h⟩
    · cases e
  | succ k =>
    unfold freeze at e
    split at e
    · rename_i h
      cases e
      exact ⟨rfl, by simpa [PV.inb] using h⟩
    · cases e
/-- behind a def's body -/
theorem handed_ok {β : Type} {r q : β} {P : β → Prop} {f : Store → β} (hs0 : RS K mg flds g H0 s) (l : g.le g') (hs : RS K mg flds g' H' s')
    (e : P (if beqSt (s'.take s.length) s then f s else if (s'.take s.length).all (SO.inb s.length) then f (s'.take s.length) else q)) : (P (f (s'.take s.length)) ∧ RS K mg flds (cutG s.length g' H') H' (s'.take s.length)) ∨ P q := by
  split at e
  · rename_i h
    have h := beqSt_eq _ _ h
    refine .inl ⟨by rw [h]; exact e, cutG_rs hs fun o ho => ?_⟩
    rw [h] at ho
    obtain ⟨m, hm⟩ := List.mem_iff_getElem?.mp ho
    obtain ⟨a, _, ro⟩ := hs0.has hm
    rw [← hs0.len]
    exact ro_inb ro
  · split at e
    · rename_i h
      exact .inl ⟨e, cutG_rs hs fun o ho => List.all_eq_true.mp h o ho⟩
    · exact .inr e
theorem back_ok {Q : VK} {W : XK} {v : V} {x : PV} (hs0 : RS K mg flds g H0 s) (l : g.le g') (hs : RS K mg flds g' H' s') (rv : RV K mg flds g' v x) (h : Good K mg flds (RV K mg flds) g Q W (handBack s.length s x s')) : Q v H' := by
  unfold handBack at h
  cases e : freeze s.length s' 3 x with
  | none =>
    rw [e] at h
    exact h v H' g' l hs rv
  | some y =>
    rw [e] at h
    dsimp only at h
    rcases handed_ok (r := Res.ok x s') (P := fun z => Good K mg flds (RV K mg flds) g Q W z) (f := fun t => Res.ok y t) hs0 l hs h with ⟨h1, h2⟩ | h1
    · exact h1 _ _ _ (cutG_le l hs0) h2 (freeze_ok hs 3 rv e)
    · exact h1 v H' g' l hs rv
theorem backX_ok {Q : VK} {W : XK} {cls : Value} {d : Option Addr} {x : PV} (hs0 : RS K mg flds g H0 s) (l : g.le g') (hs : RS K mg flds g' H' s') (rx : RX K mg flds g' cls d x) (h : Good K mg flds (RV K mg flds) g Q W (handExc s.length s x s')) : W cls d H' := by
  unfold handExc at h
  cases e : freeze s.length s' 3 x with
  | none =>
    rw [e] at h
    exact h cls d H' g' l hs rx
  | some y =>
    rw [e] at h
    dsimp only at h
    rcases handed_ok (r := Res.exc x s') (P := fun z => Good K mg flds (RV K mg flds) g Q W z) (f := fun t => Res.exc y t) hs0 l hs h with ⟨h1, h2⟩ | h1
    · refine h1 _ _ _ _ (cutG_le l hs0) h2 ?_
      cases x <;> first | exact rx.elim | skip
      rename_i dn ws
      obtain ⟨rfl, hi⟩ := freeze_exc e
      obtain ⟨C, q1, q2, q3⟩ := rx
      refine ⟨C, q1, q2, ?_⟩
      rcases q3 with q3 | ⟨q3, dd, fs, vs, q4, q5, q6, q7, q8⟩
      · exact .inl q3
      · exact .inr ⟨q3, dd, fs, vs, q4, cutG_F q5, q6, q7, rvs_cut (cut_cutG _) q8 hi⟩
    · exact h1 cls d H' g' l hs rx
end
/-! ### a def's promise -/
def spF (K : PySem.W.Frag) (mg : Str → Option Value) (flds : Fl) (fn : Str → List PV → Store → Res PV) (n : Nat) (f : Str) : Sp := fun vs H Q E => vs.length = n ∧ ∃ g s pvs, RS K mg flds g H s ∧ RVs K mg flds g vs pvs ∧ Good K mg flds (RV K mg flds) g Q E (fn f pvs s)
theorem start_rl {K : PySem.W.Frag} {mg : Str → Option Value} {flds : Fl} {g : Gh} {N : List Str} {vs : List V} {pvs : List PV} {m : Nat} (r : RVs K mg flds g vs pvs) (h : N.length - vs.length = m) : RL K mg flds g (L2.start N vs) (pvs ++ List.replicate m .und) := by
  unfold L2.start
  rw [h]
  refine ⟨by simp [r.length], fun i x e n => ?_⟩
  by_cases hi : i < pvs.length
  · rw [List.getElem?_append_left hi] at e
    obtain ⟨v, e2, rv⟩ := r.get e
    refine ⟨v, ?_, rv⟩
    rw [List.getElem?_append_left (by rw [List.length_map, r.length]; exact hi), List.getElem?_map, e2]
    rfl
  · rw [List.getElem?_append_right (by omega), List.getElem?_replicate] at e
    split at e
    · cases e
      exact absurd rfl n
    · cases e
/-- room, and no repr is under way -/
structure RoomG (k : Nat) (A : Around) : Prop where
  r : Room k A
  g : A.guards = some []
theorem RoomG.mono {j k : Nat} {A : Around} (h : RoomG k A) (l : j ≤ k) : RoomG j A := ⟨h.r.mono l, h.g⟩
/-- a def keeps its promise where no repr is under way -/
structure FnOkG (P : Program) (w : World) (K : PySem.W.Frag) (mg : Str → Option Value) (base : Heap) (k : Nat) (f : Addr) (fd : FuncData) (ps : List Str) (sp : Sp) : Prop where
  len : ∀ {vs H Q E}, sp vs H Q E → vs.length = ps.length
  run : ∀ {A : Around} {outer : List PySem.Env} {s : Shared} {H : Hp} {args : Args} {us : List Value} {vs : List V} {Q : VK} {E : XK}, RoomG k A → Env0 P w K mg base A outer s H →
    BindsTo s fd args (ps.zip us) → Vals vs us → sp vs H Q E → codeAny (model P w) A (.call (.ref f) args) (CR (L2.CX P w) outer P w H s Q E) s
theorem FnOkG.mono {P : Program} {w : World} {K : PySem.W.Frag} {mg : Str → Option Value} {base : Heap} {j k : Nat} {f : Addr} {fd : FuncData} {ps : List Str} {sp : Sp} (F : FnOkG P w K mg base j f fd ps sp) (l : j ≤ k) : FnOkG P w K mg base k f fd ps sp :=
  ⟨F.len, fun rg => F.run (rg.mono l)⟩
theorem fn_ok {P : Program} {w : World} {K : PySem.W.Frag} {mg : Str → Option Value} {base : Heap} {flds : Fl} {T : Tx} {x qual : Str} {st : Stmt} {f : Addr} {fd : FuncData} {N ps : List Str} {k r : Nat} {d : FnI} (F : Fun K x qual st f fd) (S : FnScope N ps (defScope st))
    (hT : T.fn x = some d) (hp : d.params = ps.length) (hN : N.length - ps.length = d.slots - d.params)
    (hbody : ∀ (A : Around) (outer : List PySem.Env) (s : Shared) (H : Hp) (E : XK), RoomG r (A.deeper (envOfC qual (defScope st) s.heap.objs.size f fd.code)) →
      PSsv (cxOf (L2.CX P w) P w K mg base N qual (defScope st) f fd.code A outer s H E) flds (defBody st) (exs (callsOf T k) d.body)) :
    FnOkG P w K mg base (r + 1) f fd ps (spF K mg flds (callF T (k + 1)) ps.length x) := by
  obtain ⟨oc, od, kV, doc, pm, an, cdv, ct, osl, rfl, lk, hcd⟩ := F.ex
  refine ⟨fun h => h.1, fun {A outer s H args us vs Q E} rg e0 hb rvs h => ?_⟩
  obtain ⟨hl, g, s0, pvs, hs, rv, hg⟩ := h
  refine LamX.run_ofS lk hcd S rg.r e0 hb rvs hl fun hr => ?_
  refine ⟨_, hbody A outer s H E ⟨hr, rg.g⟩ (fun cls d _ H => E cls d H) (takes_of rfl rfl rfl rfl) (passes_of rfl), ?_⟩
  have hlen : pvs.length = d.params := by rw [← rv.length, hl, hp]
  have hrl : RL K mg flds g (L2.start N vs) (pvs ++ List.replicate (d.slots - d.params) .und) := start_rl rv (by rw [hl, hN])
  refine ⟨g, pvs ++ List.replicate (d.slots - d.params) PV.und, s0, hs, hrl, ?_⟩
  rw [callF_succ] at hg
  unfold call1 at hg
  rw [hT] at hg
  dsimp only at hg
  rw [if_pos hlen] at hg
  cases e : exs (callsOf T k) d.body (pvs ++ List.replicate (d.slots - d.params) .und) s0 with
  | nx env s1 =>
    rw [e] at hg
    exact fun σ' H' g' l hs' _ => back_ok hs l hs' .non hg
  | rt v s1 =>
    rw [e] at hg
    exact fun y H' g' l hs' r => back_ok hs l hs' r hg
  | bk env s1 => rw [e] at hg; exact hg.elim
  | ct env s1 => rw [e] at hg; exact hg.elim
  | exc y env s1 =>
    rw [e] at hg
    exact fun c d σ' H' g' l hs' _ rx => backX_ok hs l hs' rx hg
  | stk => rw [e] at hg; exact hg.elim
/-! ### calls -/
section
variable {X : Cx} {flds : Fl} {C : Calls} {kk n : Nat} {f : Addr} {fd : FuncData} {ps : List Str} {x : Str} {p pos : Pos} {a : Expr} {es : List Expr} {ms : Env → Store → Res (List PV)}
theorem passesAt {W : WX} (tk : Takes X W) (σ : L2.St) : PassesAt (L2.CX X.prog X.w) X σ (fun cls d H => W cls d σ H) :=
  fun pins H s e s' I c => tk e s' (XE.of_call I (fun _ _ _ h => h) c)
/-- the call itself, whatever was given by name -/
theorem run_args {W : WX} {pins : List (Addr × Obj)} {σ : L2.St} {H : Hp} {s : Shared} {Q : VK} {us : List Value} {kw : List (Str × Value)} {vs : List V} {ws : List Value} {sp : Sp} (tk : Takes X W) (F : FnOkG X.prog X.w X.K X.mg X.base kk f fd ps sp) (hr : RoomG kk X.A)
    (hb : BindsTo s fd ⟨us, kw⟩ (ps.zip ws)) (I : Inv X pins σ H s) (r : Vals vs ws) (h : sp vs H Q (fun cls d H => W cls d σ H)) : wpAny (model X.prog X.w) X.A (call (.ref f) us kw) (EP X pins σ Q) X.xe s :=
  wpAny_call (codeAny_mono (F.run hr I.env0 hb r h) fun fl s' hq => by
    match fl, hq with
    | .error e, hq => exact passesAt tk σ pins H s e s' I hq
    | .ok (.ret u), hq => exact I.after hq
    | .ok .next, hq => exact hq.elim
    | .ok .brk, hq => exact hq.elim
    | .ok .cont, hq => exact hq.elim)
theorem call_sp {σ : L2.St} {H : Hp} {Q : VK} {W : WX} {fn : Str → List PV → Store → Res PV} (hn : (a :: es).length = n) (hlen : ∀ env s vs s', ms env s = .ok vs s' → vs.length = (a :: es).length) {g : Gh} {env : Env} {s : Store} (hs : RSx X flds g H s) (hl : RLx X flds g σ env)
    (h : Gd X flds (RVx X flds) g Q (fun c d H' => W c d σ H') ((ms env s).bind fun xs s => fn x xs s)) : TM X flds (RVsx X flds) W ms σ H fun vs H1 => spF X.K X.mg flds fn n x vs H1 Q (fun cls d H => W cls d σ H) := by
  refine ⟨g, env, s, hs, hl, ?_⟩
  cases e : ms env s with
  | exc y s1 =>
    rw [e] at h
    exact h
  | stk =>
    rw [e] at h
    exact h.elim
  | ok pvs s1 =>
    rw [e] at h
    intro vs H1 g1 l1 hs1 rvs
    exact ⟨by rw [rvs.length, hlen _ _ _ _ e, hn], g1, s1, pvs, hs1, rvs, Good.mono h l1⟩
theorem sx_call (F : FnOkG X.prog X.w X.K X.mg X.base kk f fd ps (spF X.K X.mg flds C.fn n x)) (hr : RoomG kk X.A) (hg : Gl X x) (hm : X.mg x = some (.ref f)) (hk : PySem.W.keepIn X.K (.ref f) = true) (hb : Binds X.K fd ps [])
    (hdb : (x == ("__debug__" : Str)) = false) (he : starEach (a :: es) X.env = (false, eval a X.env) :: starEach es X.env) (hpl : (backTo pos (starEach es X.env)).any (·.1) = false) (hn : (a :: es).length = n)
    (hlen : ∀ env s vs s', ms env s = .ok vs s' → vs.length = (a :: es).length) (ha : PAv X flds (a :: es) ms) :
    PEv X flds (.Call (.Name x p) (a :: es) [] pos) fun env s => (ms env s).bind fun xs s => C.fn x xs s :=
  fun W tk => ⟨fun pins s σ H Q I ⟨g, env, s0, hs, hl, h⟩ => by
    refine wpAny_Call_Name_kw (ld_glob I hg hm ?_ hdb)
    refine PySem.W.callWith_K I.ok.mod.kin hk (thn ((ha W tk).run pos pins s σ H _ I (call_sp hn hlen hs hl h)) fun us s1 ⟨vs, H1, I1, r, q⟩ => ⟨I1.kIn, ?_⟩) he hpl
    have hl2 : us.length = ps.length := by rw [← r.length]; exact F.len q
    have hb2 := hb s1 us I1.kIn (by rw [List.append_nil]; exact hl2)
    rw [List.append_nil] at hb2
    exact run_args tk F hr hb2 I1 r q⟩
/-- a def that a slot holds -/
theorem sx_callv {i : Nat} (hF : ∀ y q, C.glob y = some (.fn q) → ∃ fy fd ps, X.mg y = some (.ref fy) ∧ PySem.W.keepIn X.K (.ref fy) = true ∧ Binds X.K fd ps [] ∧ (∀ xs s, C.fn y xs s ≠ .stk → xs.length = ps.length) ∧ FnOkG X.prog X.w X.K X.mg X.base kk fy fd ps (spF X.K X.mg flds C.fn ps.length y)) (hr : RoomG kk X.A)
    (hN : X.N[i]? = some x) (hv : Vis X.env.scope x) (hdb : (x == ("__debug__" : Str)) = false) (hcd : (x == ("__classdict__" : Str)) = false) (he : starEach (a :: es) X.env = (false, eval a X.env) :: starEach es X.env) (hpl : (backTo pos (starEach es X.env)).any (·.1) = false)
    (ha : PAv X flds (a :: es) ms) :
    PEv X flds (.Call (.Name x p) (a :: es) [] pos) fun env s => match env[i]? with
      | some (.fn y) => match C.glob y with
        | some (.fn _) => (ms env s).bind fun xs s => C.fn y xs s
        | _ => .stk
      | _ => .stk :=
  fun W tk => ⟨fun pins s σ H Q I ⟨g, env, s0, hs, hl, h⟩ => by
    have h : Gd X flds (RVx X flds) g Q (fun c d H' => W c d σ H') (match env[i]? with
      | some (.fn y) => match C.glob y with
        | some (.fn _) => (ms env s0).bind fun xs s => C.fn y xs s
        | _ => .stk
      | _ => .stk) := h
    split at h
    · rename_i y ey
      split at h
      · rename_i q eq
        obtain ⟨v, e1, rv⟩ := hl.2 i _ ey (by intro z; cases z)
        obtain ⟨fy, fd, ps, hm, hk, hb, har, F⟩ := hF y q eq
        cases rv with
        | fn hm' =>
        rw [hm] at hm'
        cases hm'
        refine wpAny_Call_Name_kw (thn ((pe_var (pos := p) hN hv hdb hcd).run pins s σ H (fun v H1 => v = .ref fy ∧ H1 = H) I ⟨.ref fy, e1, rfl, rfl⟩) fun u s1 ⟨v, H1, I1, r1, q1⟩ => ?_)
        obtain ⟨rfl, rfl⟩ := q1
        cases r1
        have hsp : TM X flds (RVsx X flds) W ms σ H1 fun vs H2 => spF X.K X.mg flds C.fn ps.length y vs H2 Q (fun cls d H => W cls d σ H) := by
          refine ⟨g, env, s0, hs, hl, ?_⟩
          cases e : ms env s0 with
          | exc y s1 =>
            rw [e] at h
            exact h
          | stk =>
            rw [e] at h
            exact h.elim
          | ok pvs s2 =>
            rw [e] at h
            intro vs H2 g1 l1 hs1 rvs
            have ne : C.fn y pvs s2 ≠ .stk := fun z => by
              rw [Res.bind_ok, z] at h
              exact h.elim
            exact ⟨by rw [rvs.length, har _ _ ne], g1, s2, pvs, hs1, rvs, Good.mono h l1⟩
        refine PySem.W.callWith_K I1.ok.mod.kin hk (thn ((ha W tk).run pos pins s1 σ H1 _ I1 hsp) fun us s2 ⟨vs, H2, I2, r, q⟩ => ⟨I2.kIn, ?_⟩) he hpl
        have hl2 : us.length = ps.length := by rw [← r.length]; exact F.len q
        have hb2 := hb s2 us I2.kIn (by rw [List.append_nil]; exact hl2)
        rw [List.append_nil] at hb2
        exact run_args tk F hr hb2 I2 r q
      · exact h.elim
    · exact h.elim⟩
theorem sx_call0 (F : FnOkG X.prog X.w X.K X.mg X.base kk f fd ps (spF X.K X.mg flds C.fn 0 x)) (hr : RoomG kk X.A) (hg : Gl X x) (hm : X.mg x = some (.ref f)) (hk : PySem.W.keepIn X.K (.ref f) = true) (hb : Binds X.K fd ps []) (hdb : (x == ("__debug__" : Str)) = false) :
    PEv X flds (.Call (.Name x p) [] [] pos) fun env s => C.fn x [] s :=
  fun W tk => ⟨fun pins s σ H Q I ⟨g, env, s0, hs, hl, h⟩ => by
    refine wpAny_Call_Name_kw (ld_glob I hg hm ?_ hdb)
    have q : spF X.K X.mg flds C.fn 0 x [] H Q (fun cls d H => W cls d σ H) := ⟨rfl, g, s0, [], hs, .nil, h⟩
    have hl2 : ([] : List Value).length = ps.length := F.len q
    exact PySem.W.callWith_K0 I.kIn hk (run_args tk F hr (hb s [] I.kIn hl2) I .nil q)⟩
end
end MP

/-! A lambda without parameters, handed to the def that calls it and holds its error. -/
namespace MP
open PySem PySem.Spec PyProof.Rows L2 LamX
section
variable {X : Cx} {flds : Fl}
theorem RS.ext {K : PySem.W.Frag} {mg : Str → Option Value} {g : Gh} {H H1 : Hp} {s : Store} (h : RS K mg flds g H s) (e : ExtN H H1) (t : Tabs flds.T H1) : RS K mg flds g H1 s := by
  refine ⟨fun a o q => e a o (h.fr a o q) fun ps z => h.ntF a ps (by rw [q, z]), h.len, h.nd, h.sep, fun a o q => e a o (h.rs a o q) fun ps z => h.ntR a ps (by rw [q, z]), h.sepF, h.sepM, t, h.ntF, h.ntR, fun n a o e1 e2 => ?_⟩
  have ro := h.ob n a o e1 e2
  obtain ⟨u, p1, p2, _⟩ := ro_plain ro
  exact ro.msub Gh.le.rfl.sub ((e a u p1 p2).trans p1.symm)
/-- x(), in the def that got the lambda, what it raises told of the slots -/
theorem pe_actS {CXg : CXT} {Eg : XK} {Ng : List Str} {qg : Str} {sg : Scope} {g f c' : Addr} {cdg pm ctv : Value} {params : Arguments} {body : Expr} {scope : Scope} {k i : Nat} {a : Str} {pn pins : List (Addr × Obj)} {xe : Value → Shared → Prop} {W : WX} {t : XK → TE} {p1 p2 : Pos} {σ : L2.St} {H : Hp} {s : Shared}
    (I : Inv X pins σ H s) (L : LamS X.env.scope scope) (hf : s.heap.get? f = some (PySem.W.kla_obj "<lambda>" (X.env.qual ++ "<lambda>") params body scope (cloFrom X.env.cells scope.names []) pm c' ctv)) (hfn : H f = none) (hfr : f ∉ frs X.stack)
    (hbind : bindArgs (PySem.W.kla_fn "<lambda>" (X.env.qual ++ "<lambda>") params body scope (cloFrom X.env.cells scope.names []) pm (.ref c') ctv) ⟨[], []⟩ = pure [])
    (tk : Takes ((cxOf CXg X.prog X.w X.K X.mg X.base Ng qg sg g cdg X.A X.stack s H Eg).tr pn xe) W) (hr : RoomG (k + 1) (X.A.deeper (envOfC qg sg s.heap.objs.size g cdg)))
    (hbody : ∀ (A : Around) (outer : List PySem.Env) (s : Shared) (H : Hp) (E : XK), RoomG k (A.deeper (lamEnv X scope s.heap.objs.size f c')) → PE (lamCx X A outer s H E scope f c') body (t E))
    (hN : Ng[i]? = some a) (hv : Vis sg a) (hd : (a == ("__debug__" : Str)) = false := by decide) (hcd : (a == ("__classdict__" : Str)) = false := by decide) :
    PE ((cxOf CXg X.prog X.w X.K X.mg X.base Ng qg sg g cdg X.A X.stack s H Eg).tr pn xe) (.Call (.Name a p1) [] [] p2)
      (fun σZ HZ Q => σZ[i]? = some (some (.ref f)) ∧ HZ c' = some (CodeO c' (X.env.qual ++ "<lambda>")) ∧ t (fun cls d H' => W cls d σZ H') σ HZ Q) := by
  refine ⟨fun pinsZ sZ σZ HZ Q IZ h => ?_⟩
  obtain ⟨hs, hc, ht⟩ := h
  refine wpAny_Call_Name_kw (thn ((pe_var (pos := p1) (i := i) hN hv hd hcd).run pinsZ sZ σZ HZ (fun v H1 => v = .ref f ∧ H1 = HZ) IZ ⟨.ref f, hs, rfl, rfl⟩) fun u s1 ⟨v, H1, I1, r1, q1⟩ => ?_)
  obtain ⟨ev, eH⟩ := q1
  subst ev
  rw [eH] at I1
  obtain rfl : u = Value.ref f := r1
  have of1 : s1.heap.get? f = some (PySem.W.kla_obj "<lambda>" (X.env.qual ++ "<lambda>") params body scope (cloFrom X.env.cells scope.names []) pm c' ctv) := I1.base.keep f _ hf hfn hfr (fun z => nomatch (show f ∈ ([] : List Addr) from z))
  refine PySem.W.callWith_F0 ⟨_, _, _, _, of1⟩ ?_
  have un : Un (frs X.stack) [] H HZ s.heap s1.heap := I1.base
  obtain ⟨⟨oc, vs, tt, hoc, hdc, hvc⟩, _, _⟩ := I1.hok c' _ hc
  have rc : codeAny (model X.prog X.w) (X.A.deeper (envOfC qg sg s.heap.objs.size g cdg)) (.call (.ref f) ⟨[], []⟩) (CR (L2.CX X.prog X.w) (envOfC qg sg s.heap.objs.size g cdg :: X.stack) X.prog X.w HZ s1 Q (fun cls d H' => W cls d σZ H')) s1 := by
    refine PySem.W.kla_callFunE hr.r.depth of1 rfl L.co L.gen rfl ⟨c', oc, vs, tt, rfl, hoc, hdc, hvc⟩ ?_
    rw [hbind]
    refine wpAny_pure (wpAny_newFunctionEnv (fun y hy => (L.own y hy).2) (fun y hy => absurd hy (by simp)) (fun h₁ hns hsb => ⟨I1.nolimit.fresh _ hsb, ?_⟩) L.kind)
    show codeAny _ _ (.expr body (lamEnv X scope s1.heap.objs.size f c')) _ _
    have kp : ∀ b o, s1.heap.get? b = some o → h₁.get? b = some o := fun b o e => hsb.extBut b o (Nat.ne_of_lt (Heap.lt_size e)) (Heap.get?_push_of_some _ e)
    have J : Inv (lamCx X (X.A.deeper (envOfC qg sg s.heap.objs.size g cdg)) (envOfC qg sg s.heap.objs.size g cdg :: X.stack) s1 HZ (fun cls d H' => W cls d σZ H') scope f c') [] σ HZ { s1 with heap := h₁, toks := s1.toks + ([] : List (Str × Value)).length } :=
      lam_start2 I L I1.env0 hr.r.hd un hns kp
    refine PySem.W.kla_codeExpr (wpAny_mono ((hbody _ _ s1 HZ (fun cls d H' => W cls d σZ H') ⟨hr.r.deeper _, hr.g⟩).run [] _ _ HZ Q J ht) (fun v s' hq => ?_) fun e s' hq => hq)
    obtain ⟨w', H', J', rv, q⟩ := hq
    exact ⟨w', H', J'.os, J'.bare, J'.base, J'.hok, rv, q⟩
  refine wpAny_call (codeAny_mono rc fun r s' hq => ?_)
  cases r with
  | error e => exact tk _ _ (XE.of_call I1 (fun _ _ _ h => h) hq)
  | ok fl =>
    cases fl with
    | ret u => exact I1.after hq
    | next => exact False.elim hq
    | brk => exact False.elim hq
    | cont => exact False.elim hq
/-- the def's body: caught = None; try: work() except e as error: caught = error; return caught -/
def CaughtBody (e : Str) (b : List Stmt) : Prop := ∃ (j : Nat) (p1 p2 p3 p4 p5 p6 p7 p8 p9 p10 p11 p12 p13 p14 : Pos), b = [.Assign [.Name "caught" p1] (.Constant .none j p2) p3,
  .Try [.Expr (.Call (.Name "work" p4) [] [] p5) p6] [.ExceptHandler (some (.Name e p7)) (some "error") [.Assign [.Name "caught" p8] (.Name "error" p9) p10] p11] [] [] p12, .Return (some (.Name "caught" p13)) p14]
def NgC : List Str := ["work", "caught", "error"]
structure CaughtScope (e : Str) (sg : Scope) : Prop where
  work : sg.names.lookup ("work" : Str) = some .local
  caught : sg.names.lookup ("caught" : Str) = some .local
  error : sg.names.lookup ("error" : Str) = some .local
  cls : sg.names.lookup e = some .globalImplicit
theorem sx_caught {sub : Str → Str → Option Bool} {x e : Str} {gA CS c P : Addr} {k : Nat} {st : Stmt} {fd : FuncData} {params : Arguments} {body : Expr} {scope : Scope} {p lpos pos : Pos} {me : Env → Store → Res PV}
    (hg : Gl X x) (hm : X.mg x = some (.ref gA)) (hdb : (x == ("__debug__" : Str)) = false) (F : Fun X.K x x st gA fd) (hb : L2.Binds X.K fd ["work"] []) (Sg : FnScope NgC ["work"] (defScope st)) (hB : CaughtBody e (defBody st)) (hS : CaughtScope e (defScope st))
    (hme : X.mg e = some (.ref CS)) (hde : (e == ("__debug__" : Str)) = false) (xf : XF X.K X.mg sub)
    (TB : TabB X.base X.mg c P) (hcode : X.env.code = .ref c) (hmT : (P, X.env.qual ++ "<lambda>") ∈ flds.T) (hu : ∀ p ∈ flds.T, p.1 = P → p.2 = X.env.qual ++ "<lambda>") (hr : RoomG (k + 2) X.A) (L : LamS X.env.scope scope) (hdef : defaultsOf params X.env = ([], []))
    (hbind : ∀ (q : Str) (cl : List (Str × Addr)) (pm cv ctv : Value), bindArgs (PySem.W.kla_fn "<lambda>" q params body scope cl pm cv ctv) ⟨[], []⟩ = pure [])
    (hl : ∀ (A : Around) (outer : List PySem.Env) (s : Shared) (H : Hp) (E : XK) (f c' : Addr), RoomG k (A.deeper (lamEnv X scope s.heap.objs.size f c')) → PEv (lamCx X A outer s H E scope f c') flds body me) :
    PEv X flds (.Call (.Name x p) [.Lambda params body scope lpos] [] pos) fun env s => caughtSem sub e (me env s) := by
  intro W tk
  refine ⟨fun pins s σ H Q I ⟨g, env, s0, hs, hl0, h⟩ => ?_⟩
  have h : Gd X flds (RVx X flds) g Q (fun c d H' => W c d σ H') (caughtSem sub e (me env s0)) := h
  obtain ⟨oc, od, kV, doc, pm, an, cdv, ct, osl, rfl, lk, hcg⟩ := F.ex
  refine wpAny_Call_Name_kw (ld_glob I hg hm ?_ hdb)
  refine PySem.W.callWith_K (h₀ := X.base) I.ok.mod.kin F.kp ?_ (by rfl) (by rfl)
  show wpAny _ _ (spliced ((false, eval (.Lambda params body scope lpos) X.env) :: backTo pos (starEach [] X.env))) _ _ s
  refine Calls.spliced_cons (lam_make2 I TB hcode hmT hu hs.tab hdef (L.has I.ok) fun f c' pm' ctv H1 s' I1 eN T1 hf hfn hfr hco => ?_)
  refine Calls.spliced_nil ⟨I1.kIn, ?_⟩
  have hs1 : RSx X flds g H1 s0 := RS.ext hs eN T1
  have rc : codeAny (model X.prog X.w) X.A (.call (.ref gA) ⟨[.ref f], []⟩) (CR C8.CX0 X.stack X.prog X.w H1 s' Q C8.E0) s' := by
    refine run_ofS (N := NgC) (ps := ["work"]) (us := [.ref f]) (vs := [.ref f]) lk hcg Sg hr.r I1.env0 (hb s' [.ref f] I1.kIn rfl) (.cons rfl .nil) rfl fun hr' => ?_
    obtain ⟨j, p1, p2, p3, p4, p5, p6, p7, p8, p9, p10, p11, p12, p13, p14, hB⟩ := hB
    rw [hB]
    have hNd : NgC.Nodup := by decide
    let Z : Cx := (cxOf C8.CX0 X.prog X.w X.K X.mg X.base NgC x (defScope st) gA cdv X.A X.stack s' H1 C8.E0).nox
    have hgl : Gl Z e := hS.cls
    let tl : XK → TE := fun E => TM X flds (RVx X flds) (fun c d _ H' => E c d H') me
    let ts : TS := tAsg (tVar 2) (gName 1)
    let tb : WX → TS := fun W2 D σ2 H2 => σ2[0]? = some (some (.ref f)) ∧ H2 c' = some (CodeO c' (X.env.qual ++ "<lambda>")) ∧ tl (fun cls d H' => W2 cls d σ2 H') σ H2 fun _ H' => D.nx σ2 H'
    have S1 : PS Z (.Assign [.Name "caught" p1] (.Constant .none j p2) p3) (tAsg (tC .non) (gName 1)) := ps_set hNd rfl (.inl hS.caught) pe_non rfl (.inr hS.caught)
    have S2 : PS Z (.Try [.Expr (.Call (.Name "work" p4) [] [] p5) p6] [.ExceptHandler (some (.Name e p7)) (some "error") [.Assign [.Name "caught" p8] (.Name "error" p9) p10] p11] [] [] p12) (fun D σ H => tb (wAsX X.K (.ref CS) 2 ts (fun _ _ _ _ => False) D) D σ H) := by
      refine ps_try_asX (X := Z) (tb := tb) (ts := ts) rfl rfl hNd rfl hS.error ⟨hgl, hde, .inl hme⟩ LamX.takes0 (fun W2 pn xe tk2 _ => ?_) (fun a pn => pss_one (ps_set hNd rfl (.inl hS.caught) (pe_var rfl (.inl hS.error) (by decide) (by decide)) rfl (.inr hS.caught)))
      have act := pe_actS (CXg := C8.CX0) (Eg := C8.E0) (Ng := NgC) (qg := x) (sg := defScope st) (g := gA) (cdg := cdv) (i := 0) (a := "work") (pn := pn) (xe := xe) (p1 := p4) (p2 := p5) (t := tl) I1 L hf hfn hfr (hbind _ _ _ _ _) tk2 ⟨hr', hr.g⟩
        (fun A outer s3 H3 E3 hr3 => pe_imp (hl A outer s3 H3 E3 f c' hr3 (fun cls d _ H' => E3 cls d H') (takes_of rfl rfl rfl rfl)) fun _ _ _ q => q) rfl (.inl hS.work) (by decide) (by decide)
      exact pss_imp (pss_one (ps_expr (pos := p6) act rfl)) fun D σ2 H2 q => q
    have S3 : PS Z (.Return (some (.Name "caught" p13)) p14) (tRet (tVar 1)) := ps_ret (pe_var rfl (.inl hS.caught) (by decide) (by decide))
    refine ⟨_, (pss_cons S1 (pss_cons S2 (pss_one S3))).nox, ?_⟩
    show tb (wAsX X.K (.ref CS) 2 ts (fun _ _ _ _ => False) _) _ [some (.ref f), some .non, none] H1
    refine ⟨rfl, hco, g, env, s0, hs1, hl0, ?_⟩
    cases em : me env s0 with
    | ok v s1 =>
      rw [em] at h
      exact fun v' H' g' l hs' _ => ⟨.non, rfl, h .non H' g' l hs' .non⟩
    | stk => rw [em] at h; exact h.elim
    | exc y s1 =>
      rw [em] at h
      unfold caughtSem at h
      cases y <;> first | exact h.elim | skip
      rename_i dn ws
      dsimp only at h
      cases eb : sub dn e with
      | none => rw [eb] at h; exact h.elim
      | some b =>
        rw [eb] at h
        cases b with
        | false => exact h.elim
        | true =>
          intro cls dd H' g' l hs' hx
          obtain ⟨D', C', q1, q2, q3, q4, q5, _⟩ := xf.own dn e true eb
          rw [hme] at q2
          cases q2
          obtain ⟨D'', r1, r2, _⟩ := id hx
          rw [q1] at r1
          cases r1
          subst r2
          refine ⟨true, q5, fun _ a ha => ?_, fun z => by cases z⟩
          obtain ⟨g2, l2, hs2, rv2⟩ := held hs' hx ha
          exact ⟨.ref a, rfl, .ref a, rfl, h _ _ g2 (l.trans l2) hs2 rv2⟩
  refine wpAny_call (codeAny_mono rc fun r s2 hq => ?_)
  cases r with
  | error e => exact (show False from hq).elim
  | ok fl =>
    cases fl with
    | ret u => exact I1.after hq
    | next => exact False.elim hq
    | brk => exact False.elim hq
    | cont => exact False.elim hq
end
end MP

/-! Calls with keywords, dict displays, x[::-1], attributes of errors. -/
namespace MP
open PySem PySem.Spec PyProof.Rows L2
section
variable {X : Cx} {flds : Fl} {C : Calls} {kk n : Nat} {f : Addr} {fd : FuncData} {ps : List Str} {x : Str} {p pos : Pos} {a e : Expr} {es : List Expr} {ms ms2 : Env → Store → Res (List PV)} {ma me : Env → Store → Res PV}
/-! ### keywords -/
def PKv (X : Cx) (flds : Fl) (kws : List Keyword) (m : Env → Store → Res (List PV)) : Prop := ∀ W, Takes X W → PK X kws (TM X flds (RVsx X flds) W m)
theorem pk_imp {kws : List Keyword} {t t' : TA} (h : PK X kws t) (i : ∀ σ H Q, t' σ H Q → t σ H Q) : PK X kws t' := ⟨fun pos pins s σ H Q I q => h.run pos pins s σ H Q I (i _ _ _ q)⟩
theorem kx_nil : PKv X flds [] fun _ s => .ok [] s := fun W _ => pk_imp pk_nil fun σ H Q ⟨g, env, s, hs, hl, h⟩ => h _ _ g Gh.le.rfl hs .nil
theorem kx_cons {nm : Option Str} {kpos : Pos} {kws : List Keyword} (ha : PEv X flds a ma) (hr : PKv X flds kws ms) : PKv X flds (⟨nm, a, kpos⟩ :: kws) fun env s => (ma env s).bind fun x s => (ms env s).bind fun xs s => .ok (x :: xs) s :=
  fun W tk => pk_imp (pk_cons (ha W tk) (hr W tk)) fun σ H Q ⟨g, env, s, hs, hl, h⟩ => TM.seq hs hl h fun v H1 g1 z s1 l1 hs1 hl1 rv h1 =>
    TM.seq hs1 hl1 h1 fun vs H2 g2 zs s2 l2 hs2 hl2 rvs h2 => h2 _ _ g2 Gh.le.rfl hs2 (.cons (rv.mono l2) rvs)
def ordV {α : Type} (o : List Nat) (l : List α) : List α := o.filterMap fun i => l[i]?
theorem ord_rel {g : Gh} {vs : List V} {xs : List PV} (r : RVsx X flds g vs xs) : ∀ {o : List Nat} {ys : List PV}, (o.mapM fun i => xs[i]?) = some ys → RVsx X flds g (ordV o vs) ys ∧ ys.length = o.length
  | [], ys, e => by
    rw [List.mapM_nil] at e
    cases e
    exact ⟨.nil, rfl⟩
  | i :: o, ys, e => by
    rw [List.mapM_cons] at e
    cases e1 : xs[i]? with
    | none => rw [e1] at e; cases e
    | some y =>
      rw [e1] at e
      cases e2 : o.mapM fun i => xs[i]? with
      | none => rw [e2] at e; cases e
      | some zs =>
        rw [e2] at e
        cases e
        obtain ⟨v, e3, rv⟩ := r.get e1
        obtain ⟨h1, h2⟩ := ord_rel r e2
        refine ⟨?_, by rw [List.length_cons, List.length_cons, h2]⟩
        unfold ordV
        rw [List.filterMap_cons, e3]
        exact .cons rv h1
theorem ord_vals {us : List Value} {vs : List V} (r : Vals vs us) (o : List Nat) : Vals (ordV o vs) (ordV o us) := by
  induction o with
  | nil => exact .nil
  | cons i o ih =>
    unfold ordV
    rw [List.filterMap_cons, List.filterMap_cons]
    cases e : vs[i]? with
    | none =>
      have : us[i]? = none := by
        rw [List.getElem?_eq_none_iff] at e ⊢
        rw [← r.length]
        exact e
      rw [this]
      exact ih
    | some v =>
      obtain ⟨u, e2, ru⟩ := r.get e
      rw [e2]
      exact .cons ru ih
/-- the values stand as the parameters do -/
def OBinds (fd : FuncData) (ps ks : List Str) (na : Nat) (o : List Nat) : Prop := ∀ us ws : List Value, us.length = na → ws.length = ks.length → bindArgs fd ⟨us, ks.zip ws⟩ = pure (ps.zip (ordV o (us ++ ws)))
theorem run_o {W : WX} {pins : List (Addr × Obj)} {σ : L2.St} {H : Hp} {s : Shared} {Q : VK} {us ws : List Value} {vs zs : List V} {ks : List Str} {o : List Nat} (tk : Takes X W) (F : FnOkG X.prog X.w X.K X.mg X.base kk f fd ps (spF X.K X.mg flds C.fn n x)) (hr : RoomG kk X.A)
    (hb : OBinds fd ps ks us.length o) (hks : ws.length = ks.length) (I : Inv X pins σ H s) (r : Vals vs us) (rz : Vals zs ws) (h : spF X.K X.mg flds C.fn n x (ordV o (vs ++ zs)) H Q (fun cls d H => W cls d σ H)) :
    wpAny (model X.prog X.w) X.A (call (.ref f) us (ks.zip ws)) (EP X pins σ Q) X.xe s :=
  run_args tk F hr (.of_eq (hb us ws rfl hks)) I (ord_vals (r.append rz) o) h
theorem sx_callK0 {kws : List Keyword} {ks : List Str} {o : List Nat} (F : FnOkG X.prog X.w X.K X.mg X.base kk f fd ps (spF X.K X.mg flds C.fn n x)) (hr : RoomG kk X.A) (hg : Gl X x) (hm : X.mg x = some (.ref f)) (hk : PySem.W.keepIn X.K (.ref f) = true) (hdb : (x == ("__debug__" : Str)) = false)
    (hb : OBinds fd ps ks 0 o) (hon : o.length = n) (hall : (backToKw pos (keywordEach kws X.env)).all (·.1.isSome) = true) (hks : (backToKw pos (keywordEach kws X.env)).filterMap (·.1) = ks)
    (hpl : ((backTo pos (starEach [] X.env)).any (·.1) || (backToKw pos (keywordEach kws X.env)).any (·.1.isNone)) = false)
    (hlen : ∀ env s vs s', ms env s = .ok vs s' → vs.length = ks.length) (hkw : PKv X flds kws ms) :
    PEv X flds (.Call (.Name x p) [] kws pos) fun env s => (ms env s).bind fun xs s => match o.mapM fun i => xs[i]? with | some ys => C.fn x ys s | none => .stk := by
  intro W tk
  refine ⟨fun pins s σ H Q I ⟨g, env, s0, hs, hl, h⟩ => ?_⟩
  refine wpAny_Call_Name_kw (ld_glob I hg hm ?_ hdb)
  have tm : TM X flds (RVsx X flds) W ms σ H fun zs H1 => zs.length = ks.length ∧ spF X.K X.mg flds C.fn n x (ordV o ([] ++ zs)) H1 Q (fun cls d H => W cls d σ H) := by
    refine ⟨g, env, s0, hs, hl, ?_⟩
    have h : Gd X flds (RVx X flds) g Q (fun c d H' => W c d σ H') ((ms env s0).bind fun xs s => match o.mapM fun i => xs[i]? with | some ys => C.fn x ys s | none => .stk) := h
    cases em : ms env s0 with
    | exc y s1 => rw [em] at h; exact h
    | stk => rw [em] at h; exact h.elim
    | ok xs s1 =>
      rw [em] at h
      intro zs H1 g1 l1 hs1 rvs
      have hlz : zs.length = ks.length := by rw [rvs.length]; exact hlen _ _ _ _ em
      refine ⟨hlz, ?_⟩
      dsimp only [Res.bind_ok] at h
      cases eo : o.mapM fun i => xs[i]? with
      | none => rw [eo] at h; exact h.elim
      | some ys =>
        rw [eo] at h
        obtain ⟨h1, h2⟩ := ord_rel rvs (ys := ys) (o := o) eo
        exact ⟨by rw [List.nil_append, h1.length, h2, hon], g1, s1, ys, hs1, by rw [List.nil_append]; exact h1, Good.mono h l1⟩
  refine PySem.W.callWith_KW0 (h₀ := X.base) I.ok.mod.kin hk hall (thn ((hkw W tk).run pos pins s σ H _ I tm) fun ws s2 ⟨zs, H2, I2, rz, q1, q2⟩ => ⟨I2.kIn, ?_⟩) hpl
  rw [hks]
  exact run_o (us := []) (vs := []) tk F hr hb (by rw [← rz.length, q1]) I2 .nil rz q2
theorem sx_callK {kws : List Keyword} {ks : List Str} {o : List Nat} (F : FnOkG X.prog X.w X.K X.mg X.base kk f fd ps (spF X.K X.mg flds C.fn n x)) (hr : RoomG kk X.A) (hg : Gl X x) (hm : X.mg x = some (.ref f)) (hk : PySem.W.keepIn X.K (.ref f) = true) (hdb : (x == ("__debug__" : Str)) = false)
    (hb : OBinds fd ps ks (a :: es).length o) (hon : o.length = n) (hall : (backToKw pos (keywordEach kws X.env)).all (·.1.isSome) = true) (hks : (backToKw pos (keywordEach kws X.env)).filterMap (·.1) = ks)
    (hpl : ((backTo pos (starEach (a :: es) X.env)).any (·.1) || (backToKw pos (keywordEach kws X.env)).any (·.1.isNone)) = false) (he : starEach (a :: es) X.env = (false, eval a X.env) :: starEach es X.env)
    (hlen1 : ∀ env s vs s', ms env s = .ok vs s' → vs.length = (a :: es).length) (hlen : ∀ env s vs s', ms2 env s = .ok vs s' → vs.length = ks.length) (ha : PAv X flds (a :: es) ms) (hkw : PKv X flds kws ms2) :
    PEv X flds (.Call (.Name x p) (a :: es) kws pos) fun env s => (ms env s).bind fun xs s => (ms2 env s).bind fun zs s => match o.mapM fun i => (xs ++ zs)[i]? with | some ys => C.fn x ys s | none => .stk := by
  intro W tk
  refine ⟨fun pins s σ H Q I ⟨g, env, s0, hs, hl, h⟩ => ?_⟩
  refine wpAny_Call_Name_kw (ld_glob I hg hm ?_ hdb)
  have h : Gd X flds (RVx X flds) g Q (fun c d H' => W c d σ H') ((ms env s0).bind fun xs s => (ms2 env s).bind fun zs s => match o.mapM fun i => (xs ++ zs)[i]? with | some ys => C.fn x ys s | none => .stk) := h
  have tm : TM X flds (RVsx X flds) W ms σ H fun vs H1 => vs.length = (a :: es).length ∧ TM X flds (RVsx X flds) W ms2 σ H1 fun zs H2 => zs.length = ks.length ∧ spF X.K X.mg flds C.fn n x (ordV o (vs ++ zs)) H2 Q (fun cls d H => W cls d σ H) := by
    refine ⟨g, env, s0, hs, hl, ?_⟩
    cases em : ms env s0 with
    | exc y s1 => rw [em] at h; exact h
    | stk => rw [em] at h; exact h.elim
    | ok xs s1 =>
      rw [em] at h
      intro vs H1 g1 l1 hs1 rvs
      refine ⟨by rw [rvs.length]; exact hlen1 _ _ _ _ em, g1, env, s1, hs1, hl.mono l1, ?_⟩
      dsimp only [Res.bind_ok] at h
      have h := Good.mono h l1
      cases em2 : ms2 env s1 with
      | exc y s2 => rw [em2] at h; exact h
      | stk => rw [em2] at h; exact h.elim
      | ok ws s2 =>
        rw [em2] at h
        intro zs H2 g2 l2 hs2 rzs
        refine ⟨by rw [rzs.length]; exact hlen _ _ _ _ em2, ?_⟩
        dsimp only [Res.bind_ok] at h
        cases eo : o.mapM fun i => (xs ++ ws)[i]? with
        | none => rw [eo] at h; exact h.elim
        | some ys =>
          rw [eo] at h
          obtain ⟨h1, h2⟩ := ord_rel (RVs.append (rvs.mono l2) rzs) (ys := ys) (o := o) eo
          exact ⟨by rw [h1.length, h2, hon], g2, s2, ys, hs2, h1, Good.mono h l2⟩
  refine PySem.W.callWith_KW (h₀ := X.base) I.ok.mod.kin hk hall (thn ((ha W tk).run pos pins s σ H _ I tm) fun us s1 ⟨vs, H1, I1, r, q0, q⟩ => ?_) hpl he
  refine thn ((hkw W tk).run pos pins s1 σ H1 _ I1 q) fun ws s2 ⟨zs, H2, I2, rz, q1, q2⟩ => ⟨I2.kIn, ?_⟩
  rw [hks]
  show wpAny _ _ (call (.ref f) us (ks.zip ws)) _ _ _
  exact run_o tk F hr (by rw [← r.length, q0]; exact hb) (by rw [← rz.length, q1]) I2 r rz q2
/-! ### dict displays -/
def tPairsV (X : Cx) (flds : Fl) (W : WX) : List (Env → Store → Res PV) → List (TE)
  | [] => []
  | m :: ms => TM X flds (RVx X flds) W m :: tPairsV X flds W ms
/-- the keys are constants -/
inductive DctV (X : Cx) (flds : Fl) : List (Option Expr) → List Expr → List Key → (Env → Store → Res (List PV)) → Prop where
  | nil : DctV X flds [] [] [] fun _ s => .ok [] s
  | cons {k : Key} {ke : Expr} {ks : List (Option Expr)} {v : Expr} {vs : List Expr} {kk : List Key} {m : Env → Store → Res PV} {ms : Env → Store → Res (List PV)} (hk : PE X ke (tC (kV k))) (hv : PEv X flds v m) (hr : DctV X flds ks vs kk ms) :
      DctV X flds (some ke :: ks) (v :: vs) (k :: kk) fun env s => (m env s).bind fun x s => (ms env s).bind fun xs s => .ok (x :: xs) s
theorem DctV.pps {W : WX} (tk : Takes X W) {ks : List (Option Expr)} {vs : List Expr} {kk : List Key} (h : DctV X flds ks vs kk ms) :
    ∃ trs, PPs X pos ks vs trs ∧ ∀ σ H (R : List (V × V) → Hp → Prop), TM X flds (RVsx X flds) W ms σ H (fun ws H2 => R ((kk.map kV).zip ws) H2) → tPairs trs σ H R := by
  induction h with
  | nil => exact ⟨[], pps_nil, fun σ H R ⟨g, env, s, hs, hl, h⟩ => h _ _ g Gh.le.rfl hs .nil⟩
  | @cons k ke ks v vs kk m ms hk hv hr ih =>
    obtain ⟨trs, h1, h2⟩ := ih
    refine ⟨_, pps_cons hk (hv W tk) h1, fun σ H R ⟨g, env, s, hs, hl, h⟩ => ?_⟩
    exact TM.seq hs hl h fun v H1 g1 z s1 l1 hs1 hl1 rv h1' => h2 σ H1 _ (TM.seq hs1 hl1 h1' fun ws H2 g2 zs s2 l2 hs2 hl2 rvs h2' => h2' _ _ g2 Gh.le.rfl hs2 (.cons (rv.mono l2) rvs))
theorem merge_zip : ∀ {kk : List Key} {ws : List V} {acc : List (Key × V)}, kk.Nodup → (∀ k ∈ kk, ∀ q ∈ acc, q.1 ≠ k) → mergeK acc (kk.zip ws) = acc ++ kk.zip ws
  | [], ws, acc, _, _ => by simp [mergeK]
  | k :: kk, [], acc, _, _ => by simp [mergeK]
  | k :: kk, w :: ws, acc, nd, ap => by
    rw [List.nodup_cons] at nd
    have e1 : putK acc k w = acc ++ [(k, w)] := by
      unfold putK
      rw [if_neg]
      intro h
      rw [List.any_eq_true] at h
      obtain ⟨q, hq, hk⟩ := h
      exact ap k List.mem_cons_self q hq (of_decide_eq_true hk)
    show mergeK (putK acc k w) (kk.zip ws) = _
    rw [e1, merge_zip nd.2 fun k2 h2 q hq => ?_]
    · simp
    · rcases List.mem_append.mp hq with hq | hq
      · exact ap k2 (List.mem_cons_of_mem _ h2) q hq
      · rw [List.mem_singleton] at hq
        rw [hq]
        exact fun z => nd.1 (by rw [show k = k2 from z]; exact h2)
theorem rks_zip {g : Gh} : ∀ {kk : List Key} {ws : List V} {xs : List PV}, RVsx X flds g ws xs → RKs X.K X.mg flds g (kk.zip ws) (kk.zip xs)
  | [], _, _, _ => by simp [RKs]
  | _ :: _, _, _, .nil => by simp [RKs]
  | _ :: _, _, _, .cons r rs => ⟨rfl, r, rks_zip rs⟩
theorem sx_dct {keys : List (Option Expr)} {vals : List Expr} {kk : List Key} (h : DctV X flds keys vals kk ms) (hall : keys.all (·.isSome) = true) (hl : keys.length = vals.length) (h0 : keys ≠ []) (h15 : keys.length ≤ 15) :
    PEv X flds (.Dict keys vals pos) fun env s => (ms env (s ++ [.dct []])).bind fun xs s' => match s'[s.length]? with
      | some (.dct []) => if xs.length = kk.length ∧ kk.length ≤ 15 ∧ kk.Nodup then .ok (.obj s.length) (s'.set s.length (.dct (kk.zip xs))) else .stk
      | _ => .stk := by
  intro W tk
  obtain ⟨trs, h1, h2⟩ := h.pps (pos := pos) tk
  refine pe_imp (pe_disp h1 hall hl h0 h15) fun σ H Q ⟨g, env, s, hs, hl, hg⟩ p hp => h2 _ _ _ ?_
  obtain ⟨l0, hs0, rp⟩ := hs.alloc (so := .dct []) (o := .dK []) hp (fun g' _ H' e => ⟨[], e, by simp [RKs]⟩)
  have hg := Good.mono hg l0
  refine TM.seq (rel := RVsx X flds) (rel2 := RVx X flds) (f := fun xs s' => match s'[s.length]? with
      | some (SO.dct []) => if xs.length = kk.length ∧ kk.length ≤ 15 ∧ kk.Nodup then Res.ok (PV.obj s.length) (s'.set s.length (.dct (kk.zip xs))) else .stk
      | _ => .stk) hs0 (hl.mono l0) hg fun ws H1 g1 xs s1 l1 hs1 hl1 rv h1 => ?_
  split at h1
  · rename_i e1
    split at h1
    · rename_i hc
      cases rp with
      | obj hn =>
      have hn1 := pre_get l1.μ hn
      obtain ⟨o, e2, ro⟩ := hs1.there hn1
      rw [e1] at e2
      cases e2
      obtain ⟨ks0, e3, r0⟩ := ro
      cases ks0 with
      | cons _ _ => exact r0.elim
      | nil =>
        have hlw : ws.length = kk.length := by rw [rv.length]; exact hc.1
        refine ⟨e3, kk.zip ws, ?_, by rw [List.length_zip, hlw]; omega, ?_⟩
        · rw [List.zip_map_left]
          rfl
        · rw [merge_zip hc.2.2 (fun _ _ q hq => by cases hq), List.nil_append]
          exact h1 _ _ g1 Gh.le.rfl (hs1.write hn1 ⟨_, upd_same, rks_zip rv⟩) (.obj hn1)
    · exact h1.elim
  · exact h1.elim
/-- {} -/
theorem sx_dct0 : PEv X flds (.Dict [] [] pos) fun _ s => .ok (.obj s.length) (s ++ [.dct []]) := fun W _ => pe_imp pe_dnewK fun σ H Q ⟨g, env, s, hs, hl, h⟩ p hp => by
  obtain ⟨l0, hs0, rp⟩ := hs.alloc (so := .dct []) (o := .dK []) hp (fun g' _ H' e => ⟨[], e, by simp [RKs]⟩)
  exact h _ _ _ l0 hs0 rp
/-! ### x[::-1] -/
theorem str_rev (z : Str) (t t' : Tok) : (slicePicked z none none (some (-1, t))).filterMap (z.cps[·]?) = z.cps.toList.reverse := by
  have e : slicePicked z none none (some (-1, t)) = sliceRange ((z.length : Int) - 1) (-1) (-1) := by
    unfold slicePicked Builtin.Str.strSliceIndices
    simp
  rw [e]
  have e2 : z.length = z.cps.size := rfl
  rw [e2, PySem.W.krv_sliceRange, PySem.W.krv_range, List.filterMap_reverse, PySem.W.krv_all]
section
variable {prog : Program} {w : World} {A : Around} {E : Value → Shared → Prop} {s : Shared}
theorem places_rev (n : Nat) : Builtin.Slice.slicePlaces ((n : Int) - 1) (-1) (-1) = n := by
  unfold Builtin.Slice.slicePlaces
  have h1 : ¬ ((-1 : Int) > 0) := by omega
  simp only [h1, if_false, Int.neg_neg, Int.ediv_one]
  split <;> omega
theorem pick_rev (xs : List Value) : ((List.range xs.length).filterMap fun (m : Nat) => xs.toArray[(((xs.length : Int) - 1) + (m : Int) * (-1)).toNat]?).toArray = xs.reverse.toArray := by
  congr 1
  have e : (fun (m : Nat) => xs.toArray[(((xs.length : Int) - 1) + (m : Int) * (-1)).toNat]?) = fun (m : Nat) => xs[((xs.length : Int) - 1 - (m : Int)).toNat]? := by
    funext m
    rw [List.getElem?_toArray]
    congr 2
    omega
  rw [e]
  have key : ∀ (ys : List Value) (n : Nat), n ≤ ys.length → ((List.range n).filterMap fun (m : Nat) => ys[((n : Int) - 1 - (m : Int)).toNat]?) = (ys.take n).reverse := by
    intro ys n
    induction n with
    | zero => intro _; simp
    | succ n ih =>
      intro hn
      have hlt : n < ys.length := by omega
      rw [List.range_succ_eq_map, List.filterMap_cons]
      have e0 : ys[(((n + 1 : Nat) : Int) - 1 - ((0 : Nat) : Int)).toNat]? = some ys[n] := by
        rw [show (((n + 1 : Nat) : Int) - 1 - ((0 : Nat) : Int)).toNat = n by omega]
        exact List.getElem?_eq_getElem hlt
      rw [e0, List.filterMap_map]
      have e1 : ((fun (m : Nat) => ys[(((n + 1 : Nat) : Int) - 1 - (m : Int)).toNat]?) ∘ Nat.succ) = fun (m : Nat) => ys[((n : Int) - 1 - (m : Int)).toNat]? := by
        funext m
        show ys[(((n + 1 : Nat) : Int) - 1 - ((m + 1 : Nat) : Int)).toNat]? = _
        congr 2
        omega
      rw [e1, ih (by omega), List.take_succ_eq_append_getElem hlt, List.reverse_append]
      rfl
  have := key xs xs.length (Nat.le_refl _)
  rw [List.take_length] at this
  exact this
theorem getItem_tuple_rev {t sl : Addr} {items : List Value} {tt : Tok} {Q : Value → Shared → Prop} (ht : IsTup s.heap t items.toArray) (hs : s.heap.IsSliceOf sl .none .none (.int (-1) tt))
    (h : Q (.ref s.heap.objs.size) { s with heap := s.heap.push { cls := .type "tuple", data := .seq items.reverse.toArray } })
    (hsz : items.length ≤ sizeLine) : wpAny (model prog w) A (getItem (.ref t) (.ref sl)) Q E s := by
  have htake : sizeOk (.seq items.reverse.toArray) := by
    show items.reverse.toArray.size ≤ sizeLine
    rw [List.size_toArray, List.length_reverse]
    exact hsz
  obtain ⟨os, hos, hcs, hds⟩ := id hs
  have hTs : s.TypeIs (.ref sl) "slice" := ⟨os, hos, hcs⟩
  have hap : ∀ {A2 : Around} {E2 : Value → Shared → Prop} {Q2 : Int × Int × Nat → Shared → Prop}, Q2 ((items.length : Int) - 1, -1, items.length) s → wpAny (model prog w) A2 (Builtin.Slice.sliceApplied (.ref sl) (pure ((items.toArray.size : Nat) : Int))) Q2 E2 s := fun {A2 E2 Q2} h2 => by
    unfold Builtin.Slice.sliceApplied Builtin.Slice.sliceFields
    refine wpAny_bind (wpAny_bind (wpAny_field hos hds (x := .none) rfl (wpAny_bind (wpAny_field hos hds (x := .none) rfl (wpAny_bind (wpAny_field hos hds (x := .int (-1) tt) rfl (wpAny_pure ?_)))))))
    refine wpAny_bind (slicePart_int ?_)
    show wpAny _ _ (if ((-1 : Int) == 0) = true then _ else _) _ _ s
    rw [if_neg (by decide)]
    refine wpAny_bind (slicePart_none (wpAny_bind (slicePart_none (wpAny_bind (wpAny_pure ?_)))))
    have ea : Builtin.Slice.sliceAdjust none none (-1) ((items.toArray.size : Nat) : Int) = ((items.length : Int) - 1, -1) := by
      unfold Builtin.Slice.sliceAdjust
      simp
    show wpAny _ _ (match Builtin.Slice.sliceAdjust none none (-1) ((items.toArray.size : Nat) : Int) with | (lo, hi) => pure (lo, (-1 : Int), Builtin.Slice.slicePlaces lo hi (-1))) _ _ s
    rw [ea]
    show wpAny _ _ (pure ((items.length : Int) - 1, (-1 : Int), Builtin.Slice.slicePlaces ((items.length : Int) - 1) (-1) (-1))) _ _ s
    rw [places_rev]
    exact wpAny_pure h2
  unfold getItem
  try with_reducible refine wpAny_holding ?_
  first | refine wpAny_bind (wpAny_pure ?_) | skip
  refine wpAny_bind (wpAny_sequenceKey ht.typeIs (by decide) ?_)
  refine wpAny_bind (wpAny_callSpecial?_slot (name := Str.ofString "__getitem__") ht.typeIs PyProof.Rows.slot_tuple_getitem
    (wpAny_call_entry PyProof.Rows.slot_tuple_getitem ht.typeIs PyProof.Rows.entry_tuple_getitem ?_ (PyProof.Rows.args_tuple_getitem _ _)))
  show wpAny _ _ (Builtin.Tuple.tupleItemsOf (.ref t) >>= _) _ _ s
  refine wpAny_bind (tupleItemsOf_ ht ?_)
  refine wpAny_bind (wpAny_typeOf hTs ?_)
  rw [if_pos (by decide)]
  refine wpAny_bind (hap ?_)
  have hno : ¬ ((((items.length : Int) - 1) == 0 && (-1 : Int) == 1 && items.length == items.toArray.size) = true) := by
    simp
  show wpAny _ _ (if (((items.length : Int) - 1) == 0 && (-1 : Int) == 1 && items.length == items.toArray.size) = true then _ else _) _ _ s
  rw [if_neg hno, pick_rev]
  first
    | exact wpAny_bind (m := Builtin.Tuple.tupleExact _) (wpAny_newObj_type (wpAny_pure ⟨_, rfl, wpAny_pure h⟩) htake)
    | exact wpAny_bind (m := Builtin.Tuple.tupleExact _) (wpAny_newObj_type (wpAny_bind (wpAny_pure (wpAny_pure ⟨_, rfl, wpAny_pure h⟩))) htake)
    | exact wpAny_bind (wpAny_bind (m := Builtin.Tuple.tupleExact _) (wpAny_newObj_type (wpAny_pure (wpAny_pure ⟨_, rfl, wpAny_pure h⟩)) htake))
    | exact wpAny_bind (wpAny_bind (m := Builtin.Tuple.tupleExact _) (wpAny_newObj_type (wpAny_pure ⟨_, rfl, wpAny_pure h⟩) htake))
end
def tRevA (K : PySem.W.Frag) (te : TE) : TE := fun σ H Q => te σ H fun x H1 => (∃ a xs, x = .ref a ∧ SqL K H1 a xs ∧ ∀ p, H1 p = none → Q (.ref p) (upd H1 p (.lst xs.reverse))) ∨ (∃ z, x = .str z ∧ z.length ≤ sizeLine ∧ Q (.str ⟨z.cps.reverse⟩) H1) ∨ ∃ a xs, x = .ref a ∧ SqT K H1 a xs ∧ ∀ p, H1 p = none → Q (.ref p) (upd H1 p (.tup xs.reverse))
theorem pe_revX {te : TE} {k : Nat} {p1 p2 p3 pos : Pos} (he : PE X e te) : PE X (.Subscript e (.Slice none none (some (.UnaryOp .USub (.Constant (.int 1) k p1) p2)) p3) pos) (tRevA X.K te) := by
  refine ⟨fun pins s σ H Q I h => ?_⟩
  refine Subscript_ (thn (he.run pins s σ H _ I h) fun v s1 ⟨x, H1, I1, r1, q1⟩ => ?_)
  have hst : PO X (some (.UnaryOp .USub (.Constant (.int 1) k p1) p2)) (tPart (tUn (rU fun i => .int (-i)) (tC (.int 1)))) := po_some (pe_un un_neg pe_int)
  refine wpAny_Slice (thn (po_none.run pins s1 σ H1 (fun o H2 => o = none ∧ H2 = H1) I1 ⟨rfl, rfl⟩) fun vl s2 ⟨l, H2, I2, pl, el, e2⟩ => ?_)
  subst el e2
  refine thn (po_none.run pins s2 σ H2 (fun o H3 => o = none ∧ H3 = H2) I2 ⟨rfl, rfl⟩) fun vu s3 ⟨u, H3, I3, pu, eu, e3⟩ => ?_
  subst eu e3
  refine thn (hst.run pins s3 σ H3 (fun o H4 => o = some (-1) ∧ H4 = H3) I3 ⟨1, rfl, -1, rfl, rfl, rfl⟩) fun vs s4 ⟨o, H4, I4, ps, eo, e4⟩ => ?_
  subst eo e4
  have I5 : Inv X pins σ H4 { s4 with heap := s4.heap.push { cls := .type "slice", data := .fields #[vl, vu, vs] } } := I4.kept (t' := s4.toks) fun b ob q => Heap.get?_push_of_some _ q
  rcases q1 with ⟨a, xs, ex, hx, q⟩ | ⟨z, ex, hzl, q⟩ | ⟨a, xs, ex, hx, q⟩
  · subst ex
    cases r1
    obtain ⟨its, r, ht, hz⟩ := I5.list hx
    have hlen := r.length
    show wpAny (model X.prog X.w) X.A (subscriptTail e (.Slice none none (some (.UnaryOp .USub (.Constant (.int 1) k p1) p2)) p3) (.ref a) (.ref s4.heap.objs.size)) (EP X pins σ Q) X.xe { s4 with heap := s4.heap.push { cls := .type "slice", data := .fields #[vl, vu, vs] } }
    refine tail_any (ops := [.ref a, .ref s4.heap.objs.size]) ht.isList.typeIs (PySem.slot_list_getitem.lookup) ?_ (by with_unfolding_all rfl)
    refine wpAny_getItem_list_slice ht.isList (Heap.IsSliceOf.new _ vl vu vs) pl pu ps (by decide) ?_ (by rw [List.size_toArray]; omega)
    rw [PySem.W.krv_pick]
    refine ⟨.ref _, _, I5.laid (t' := s4.toks) (o := .lst xs.reverse) (fun b ob q => Heap.get?_push_of_some _ q) (Nat.le_refl _) ?_, rfl, q _ (I5.hok.fresh (Nat.le_refl _))⟩
    exact ⟨by rw [List.length_reverse]; exact hz, _, 0, r.reverse, Heap.get?_push_size _ rfl⟩
  · subst ex
    obtain ⟨t, rfl⟩ := r1
    cases pl
    cases pu
    cases ps with
    | int i tt =>
    show wpAny (model X.prog X.w) X.A (subscriptTail e (.Slice none none (some (.UnaryOp .USub (.Constant (.int 1) k p1) p2)) p3) (.str z t) (.ref s4.heap.objs.size)) (EP X pins σ Q) X.xe _
    refine tail_any (ops := [.ref s4.heap.objs.size, .str z t]) (typeIs_str _ z t) (F.slot_str_getitem.lookup) ?_ (by with_unfolding_all rfl)
    refine wpAny_getItem_str_slice (l := none) (u := none) (st := some (-1, tt)) ⟨_, Heap.get?_push_size _ rfl, rfl, rfl⟩ rfl ?_
    unfold sliceMade
    rw [if_neg (by simp), str_rev z tt tt]
    have er : z.cps.toList.reverse.toArray = z.cps.reverse := by rw [← Array.toList_reverse, Array.toArray_toList]
    rw [er]
    refine ⟨?_, .str ⟨z.cps.reverse⟩, H4, I5.tok _, ⟨_, rfl⟩, q⟩
    show z.cps.reverse.size ≤ sizeLine
    rw [Array.size_reverse]
    exact hzl
  · subst ex
    cases r1
    obtain ⟨its, r, ht, hz⟩ := I5.tuple hx
    have hlen := r.length
    cases pl
    cases pu
    cases ps with
    | int i tt =>
    show wpAny (model X.prog X.w) X.A (subscriptTail e (.Slice none none (some (.UnaryOp .USub (.Constant (.int 1) k p1) p2)) p3) (.ref a) (.ref s4.heap.objs.size)) (EP X pins σ Q) X.xe { s4 with heap := s4.heap.push { cls := .type "slice", data := .fields #[.none, .none, .int (-1) tt] } }
    refine tail_any (ops := [.ref a, .ref s4.heap.objs.size]) ht.typeIs (PyProof.Rows.slot_tuple_getitem.lookup) ?_ (by with_unfolding_all rfl)
    refine getItem_tuple_rev ht (Heap.IsSliceOf.new _ .none .none (.int (-1) tt)) ?_ (by rw [← hlen]; exact hz)
    refine ⟨.ref _, _, I5.laid (t' := s4.toks) (o := .tup xs.reverse) (fun b ob q => Heap.get?_push_of_some _ q) (Nat.le_refl _) ?_, rfl, q _ (I5.hok.fresh (Nat.le_refl _))⟩
    exact ⟨by rw [List.length_reverse]; exact hz, _, r.reverse, IsTup.new _ _⟩
theorem sx_rev {bx : Bool} {k : Nat} {p1 p2 p3 pos : Pos} (he : PEv X flds e me) : PEv X flds (.Subscript e (.Slice none none (some (.UnaryOp .USub (.Constant (.int 1) k p1) p2)) p3) pos) fun env s => (me env s).bind fun x s => match x with
      | .str z => if z.length ≤ line then .ok (.str ⟨z.cps.reverse⟩) s else .stk
      | .tup xs => .ok (.tup xs.reverse) s
      | x => match asSeq s x with | some xs => mkL bx (.lst xs.reverse) s | none => .stk :=
  fun W tk => pe_imp (pe_revX (he W tk)) fun σ H Q ⟨g, env, s, hs, hl, h⟩ => TM.seq hs hl h fun v H1 g1 z s1 l1 hs1 hl1 rv h1 => by
    split at h1
    · cases rv
      split at h1
      · rename_i hz
        exact .inr (.inl ⟨_, rfl, hz, h1 _ _ g1 Gh.le.rfl hs1 (.str _)⟩)
      · exact h1.elim
    · cases rv with
      | tup hq r => exact .inr (.inr ⟨_, _, rfl, sqt_heap hs1 hq, mkTup hs1 r.reverse h1⟩)
    · rename_i nt
      cases e : asSeq s1 z with
      | none => rw [e] at h1; exact h1.elim
      | some xs =>
        rw [e] at h1
        obtain ⟨a, vs, rfl, q, r⟩ := asSeq_list hs1 rv e nt
        exact .inl ⟨a, vs, rfl, q, mkNew hs1 r.reverse h1⟩
end
end MP

/-! A text and the small language's form of it: expressions. -/
namespace MP
open PySem PySem.Spec PyProof.Rows L2 LamX
/-- what is told of the place -/
structure SI where
  N : List Str
  sc : Scope
  calm : Bool
  lam : Bool
  top : Bool
  fn : Str → Bool
/-- what is told of the module -/
structure MD where
  T : Tx
  nob : List Str
  fns : List (Str × List Str)
  kws : List (Str × Nat × List Str × List Nat)
  held : Str × Str
def nmB (x : Str) : Bool := !(x == ("__debug__" : Str)) && !(x == ("__classdict__" : Str)) && decide (x ≠ ("__name__" : Str))
def visB (S : SI) (i : Nat) (x : Str) : Bool := decide (S.N[i]? = some x) && (decide (S.sc.names.lookup x = some .local) || decide (S.sc.names.lookup x = some .cell) || decide (S.sc.names.lookup x = some .free)) && nmB x
def glB (S : SI) (x : Str) : Bool := decide (S.sc.names.lookup x = some .globalImplicit) && nmB x
def locB (S : SI) (i : Nat) (x : Str) : Bool := decide (S.N[i]? = some x) && (decide (S.sc.names.lookup x = some .local) || (decide (S.sc.names.lookup x = some .cell) && S.fn x))
def noStar : Expr → Bool
  | .Starred .. => false
  | _ => true
def plainT : Expr → Bool
  | .UnaryOp .Not _ _ => false
  | .BoolOp .. => false
  | .IfExp .. => false
  | .Compare .. => false
  | _ => true
def plainI : Expr → Bool
  | .Slice .. => false
  | _ => true
def plainO : Expr → Bool
  | .Call .. => false
  | _ => true
def plainF : Expr → Bool
  | .Set .. => false
  | _ => true
def isOp (op : BOp) : Operator → Bool := fun o => match op, o with
  | .add, .Add => true
  | .sub, .Sub => true
  | .mul, .Mult => true
  | .fdiv, .FloorDiv => true
  | .mod, .Mod => true
  | .pow, .Pow => true
  | _, _ => false
theorem isOp_eq {op : BOp} {o : Operator} (h : isOp op o = true) : o = bopOf op := by
  cases op <;> cases o <;> first | rfl | cases h
def isCop (op : COp) : CmpOp → Bool := fun o => match op, o with
  | .eq, .Eq => true
  | .ne, .NotEq => true
  | .lt, .Lt => true
  | .le, .LtE => true
  | .gt, .Gt => true
  | .ge, .GtE => true
  | .inn, .In => true
  | .nin, .NotIn => true
  | .is, .Is => true
  | .isn, .IsNot => true
  | _, _ => false
theorem isCop_eq {op : COp} {o : CmpOp} (h : isCop op o = true) : o = copOf op := by
  cases op <;> cases o <;> first | rfl | cases h
section
variable {env : PySem.Env} {X : Cx} {flds : Fl}
theorem star_cons {a : Expr} {es : List Expr} (h : noStar a = true) : starEach (a :: es) env = (false, eval a env) :: starEach es env := by
  cases a <;> first | rfl | cases h
theorem star_plain {pos : Pos} : ∀ {es : List Expr}, es.all noStar = true → (backTo pos (starEach es env)).any (·.1) = false
  | [], _ => rfl
  | a :: es, h => by
    rw [List.all_cons, Bool.and_eq_true] at h
    rw [star_cons h.1]
    show (false || (backTo pos (starEach es env)).any (·.1)) = false
    rw [star_plain h.2]
    rfl
theorem star_all {pos : Pos} : ∀ {es : List Expr}, es.all noStar = true → (backTo pos (starEach es env)).all (fun x => !x.1) = true
  | [], _ => rfl
  | a :: es, h => by
    rw [List.all_cons, Bool.and_eq_true] at h
    rw [star_cons h.1]
    show (true && (backTo pos (starEach es env)).all (fun x => !x.1)) = true
    rw [star_all h.2]
    rfl
theorem true_plain {x : Expr} (h : plainT x = true) : ∀ whole, isTrue x env whole = (do let v ← whole; standAt x.pos; holding [v] (truthy v)) := by
  intro whole
  cases x <;> first | rfl | cases h | skip
  rename_i op _ _
  cases op <;> first | rfl | cases h
theorem plainIx {x : Expr} (h : plainI x = true) : PlainIx x := by
  intro o i
  cases x <;> first | rfl | cases h
theorem base_plain {o : Expr} {name : Str} (h : plainO o = true) : attributeBase o name env (eval o env) = eval o env := by
  cases o <;> first | rfl | cases h
theorem folded_plain {it : Expr} (h : plainF it = true) : ∀ x, foldedSetIterable it env x = pure x := by
  intro x
  cases it <;> first | rfl | cases h
/-- as a value, as a test -/
def Sd (X : Cx) (flds : Fl) (t : Bool) (x : Expr) (m : Env → Store → Res PV) : Prop := if t then PTv X flds x m ∧ (∀ op vs pos, x = .BoolOp op vs pos → PWv X flds x m) else PEv X flds x m
theorem sd_val {t : Bool} {x : Expr} {m : Env → Store → Res PV} (hp : plainT x = true) (h : PEv X flds x m) : Sd X flds t x m := by
  cases t with
  | false => exact h
  | true => exact ⟨tst_of (true_plain hp) h, fun op vs pos e => by subst e; cases hp⟩
theorem sd_f {x : Expr} {m : Env → Store → Res PV} (h : Sd X flds false x m) : PEv X flds x m := h
theorem sd_t {x : Expr} {m : Env → Store → Res PV} (h : Sd X flds true x m) : PTv X flds x m := h.1
theorem tst_chain {a b c : Expr} {ma mb mc : Env → Store → Res PV} {pos : Pos} {op op' : COp} (hu : X.A.units + 65 < cLine) (hm : lastMarks [copOf op, copOf op'] [b, c] = false) (ha : PEv X flds a ma) (hb : PEv X flds b mb) (hc : PEv X flds c mc) :
    PTv X flds (.Compare a [copOf op, copOf op'] [b, c] pos) fun env s => (ma env s).bind fun x s => (mb env s).bind fun y s => (Res.of (cmpSem op s x y) s).bind fun t s =>
      if t then (mc env s).bind fun z s => .of ((cmpSem op' s y z).map .bl) s else .ok (.bl false) s :=
  fun W tk => pt_imp (pt_chain (op_cmp (flds := flds) op hu) (op_cmp (flds := flds) op' hu) (ha W tk) (hb W tk) (hc W tk) hm) fun σ H Q ⟨g, env, s, hs, hl, h⟩ => by
    have h' : Gd X flds eqB g Q (fun c d H' => W c d σ H') ((ma env s).bind fun x s => (mb env s).bind fun y s => (Res.of (cmpSem op s x y) s).bind fun t s =>
      if t then (mc env s).bind fun z s => (Res.of ((cmpSem op' s y z).map PV.bl) s).bind fun x s => Res.of (truth s x) s else .ok false s) := by
      cases e : ma env s with
      | exc x s => simpa only [e, Res.bind_exc] using h
      | stk => simpa only [e, Res.bind_stk] using h
      | ok x s1 =>
        simp only [e, Res.bind_ok] at h ⊢
        cases e2 : mb env s1 with
        | exc x s => simpa only [e2, Res.bind_exc] using h
        | stk => simpa only [e2, Res.bind_stk] using h
        | ok y s2 =>
          simp only [e2, Res.bind_ok] at h ⊢
          cases e3 : cmpSem op s2 x y with
          | none => rw [e3] at h; exact h.elim
          | some t =>
            simp only [e3, Res.of_some, Res.bind_ok] at h ⊢
            cases t with
            | false => exact h
            | true =>
              simp only [if_true] at h ⊢
              cases e4 : mc env s2 with
              | exc x s => simpa only [e4, Res.bind_exc] using h
              | stk => simpa only [e4, Res.bind_stk] using h
              | ok z s3 => simpa only [e4, Res.bind_ok] using h
    refine TM.seq hs hl h' fun v H1 g1 z s1 l1 hs1 hl1 rv h1 => TM.seq hs1 hl1 h1 fun u H2 g2 y s2 l2 hs2 hl2 ru h2 => ?_
    obtain ⟨t, e, q⟩ := Good.look h2
    refine ⟨g2, s2, z, y, t, hs2, rv.mono l2, ru, e, t, rfl, ?_⟩
    cases t with
    | false =>
      rw [if_neg Bool.false_ne_true] at q ⊢
      exact ⟨false, rfl, q _ _ g2 Gh.le.rfl hs2 rfl⟩
    | true =>
      rw [if_pos rfl] at q ⊢
      refine TM.seq hs2 hl2 q fun w H3 g3 z3 s3 l3 hs3 hl3 rw3 h3 => ?_
      obtain ⟨w', e3, q3⟩ := Good.look h3
      obtain ⟨t, e1, e2⟩ := Option.map_eq_some_iff.mp e3
      subst e2
      exact ⟨g3, s3, y, z3, t, hs3, ru.mono l3, rw3, e1, t, rfl, q3 _ _ g3 Gh.le.rfl hs3 rfl⟩
end
/-! ### what is known where -/
section
/-- the defs -/
structure COk (P : Program) (w : World) (K : PySem.W.Frag) (mg : Str → Option Value) (base : Heap) (flds : Fl) (M : MD) (r : Nat) (C : Calls) : Prop where
  fns : ∀ f ps, (f, ps) ∈ M.fns → ∃ fa fd, mg f = some (.ref fa) ∧ PySem.W.keepIn K (.ref fa) = true ∧ L2.Binds K fd ps [] ∧ (∀ na ks o, (f, na, ks, o) ∈ M.kws → OBinds fd ps ks na o) ∧ FnOkG P w K mg base r fa fd ps (spF K mg flds C.fn ps.length f)
  ar : ∀ f ps, (f, ps) ∈ M.fns → ∀ xs s, C.fn f xs s ≠ .stk → xs.length = ps.length
  glob : C.glob = M.T.glob
  sub : C.sub = M.T.sub
/-- the module -/
structure MOk (K : PySem.W.Frag) (mg : Str → Option Value) (flds : Fl) (M : MD) : Prop where
  nob : ∀ x ∈ M.nob, mg x = none
  gfn : ∀ y q, M.T.glob y = some (.fn q) → ∃ ps, (y, ps) ∈ M.fns
  glob : ∀ x p, M.T.glob x = some p → ∃ u v, mg x = some u ∧ RelV v u ∧ ∀ g, RV K mg flds g v p
  xf : XF K mg M.T.sub
  err : ∀ c b, M.T.sub c c = some b → ∃ C, mg c = some (.ref C) ∧ ErrC K C ∧ flds c = []
  held : ∃ gA fd CS st, mg M.held.1 = some (.ref gA) ∧ Fun K M.held.1 M.held.1 st gA fd ∧ L2.Binds K fd ["work"] [] ∧ FnScope NgC ["work"] (defScope st) ∧ CaughtBody M.held.2 (defBody st) ∧ CaughtScope M.held.2 (defScope st) ∧ mg M.held.2 = some (.ref CS)
structure SOk (X : Cx) (flds : Fl) (M : MD) (S : SI) (C : Calls) : Prop where
  mod : MOk X.K X.mg flds M
  N : X.N = S.N
  nd : S.N.Nodup
  sc : X.env.scope = S.sc
  kind : S.sc.kind = .function
  calm : S.calm = true → X.calm = true
  fn : ∀ x, S.fn x = true → X.fn x = true
  un : X.A.units + 65 < cLine
  calls : S.calm = true → ∃ r, RoomG r X.A ∧ COk X.prog X.w X.K X.mg X.base flds M r C ∧ (S.lam = true → ∃ r', r' + 2 ≤ r ∧ COk X.prog X.w X.K X.mg X.base flds M r' C.down)
  lamT : S.lam = true → ∃ c P, X.env.code = .ref c ∧ TabB X.base X.mg c P ∧ (P, X.env.qual ++ "<lambda>") ∈ flds.T ∧ ∀ p ∈ flds.T, p.1 = P → p.2 = X.env.qual ++ "<lambda>"
  top : S.top = true → X.stack = X.env :: X.outer ∧ X.env.frame = some X.env.locals
  cg : C.glob = M.T.glob
  cs : C.sub = M.T.sub
end
section
variable {X : Cx} {flds : Fl} {M : MD} {S : SI} {C : Calls}
theorem nm_ok {x : Str} (h : nmB x = true) : (x == ("__debug__" : Str)) = false ∧ (x == ("__classdict__" : Str)) = false ∧ x ≠ ("__name__" : Str) := by
  unfold nmB at h
  simp only [Bool.and_eq_true, Bool.not_eq_true', decide_eq_true_eq] at h
  exact ⟨h.1.1, h.1.2, h.2⟩
theorem vis_ok (ok : SOk X flds M S C) {i : Nat} {x : Str} {pos : Pos} (h : visB S i x = true) : PEv X flds (.Name x pos) (varSem i) := by
  unfold visB at h
  simp only [Bool.and_eq_true, Bool.or_eq_true, decide_eq_true_eq] at h
  obtain ⟨⟨h1, h2⟩, h3⟩ := h
  obtain ⟨n1, n2, _⟩ := nm_ok h3
  refine sx_var (by rw [ok.N]; exact h1) ?_ n1 n2
  unfold Vis
  rw [ok.sc]
  rcases h2 with (h | h) | h
  · exact .inl h
  · exact .inr (.inl h)
  · exact .inr (.inr h)
theorem gl_ok (ok : SOk X flds M S C) {x : Str} (h : glB S x = true) : Gl X x ∧ (x == ("__debug__" : Str)) = false ∧ x ≠ ("__name__" : Str) := by
  unfold glB at h
  simp only [Bool.and_eq_true, decide_eq_true_eq] at h
  obtain ⟨h1, h3⟩ := h
  obtain ⟨n1, n2, n3⟩ := nm_ok h3
  refine ⟨?_, n1, n3⟩
  show X.env.scope.names.lookup x = _
  rw [ok.sc]
  exact h1
theorem loc_ok (ok : SOk X flds M S C) {i : Nat} {x : Str} (h : locB S i x = true) : X.N[i]? = some x ∧ L2.Loc X.env.scope x ∧ (X.fn x = true ∨ X.env.scope.names.lookup x = some .local) := by
  unfold locB at h
  simp only [Bool.and_eq_true, Bool.or_eq_true, decide_eq_true_eq] at h
  obtain ⟨h1, h2⟩ := h
  refine ⟨by rw [ok.N]; exact h1, ?_, ?_⟩
  · unfold L2.Loc
    rw [ok.sc]
    rcases h2 with h | h
    · exact .inl h
    · exact .inr h.1
  · rw [ok.sc]
    rcases h2 with h | h
    · exact .inr h
    · exact .inl (ok.fn x h.2)
end
end MP

/-! A text and the small language's form of it: the look, and that it tells the truth. -/
namespace MP
open PySem PySem.Spec PyProof.Rows L2 LamX
def tgB (S : SI) : Tg → Expr → Bool
  | .one i, x => match x with | .Name y _ => locB S i y | _ => false
  | .many is, x => match x with | .Tuple xs _ _ => decide (xs.length = is.length) && ((is.zip xs).all fun p => match p.2 with | .Name y _ => locB S p.1 y | _ => false) | _ => false
/-- the place within a comprehension -/
def SI.blk (S : SI) (scope : Scope) : SI := ⟨S.N, relS scope S.sc, S.calm, S.lam, false, fun x => scope.names.lookup x == some .cell⟩
/-- the place within a lambda -/
def SI.lamb (S : SI) (scope : Scope) : SI := ⟨S.N, scope, true, false, false, fun _ => false⟩
def ownOf (S : SI) (own : List Nat) : List (Str × Nat) := own.map fun i => (S.N.getD i "", i)
def cargs : Arguments → Bool
  | ⟨[], [], none, [], [], none, []⟩ => true
  | _ => false
def keysB : List Key → List (Option Expr) → Bool
  | [], [] => true
  | k :: ks, some (.Constant c _ _) :: xs => (match k, c with | .inl i, .int j => decide (i = j) | .inr z, .str y => decide (z = y) | _, _ => false) && keysB ks xs
  | _, _ => false
def isTargs (f : Blt) (S : SI) (M : MD) (x : Expr) : Bool := match f, x with
  | .isT T, .Name y _ => decide (T ∈ tys) && decide (bootBuiltins y = some (.type T)) && glB S y && decide (y ∈ M.nob)
  | .isC c, .Name y _ => decide (c = y) && glB S y && (M.T.sub c c).isSome
  | _, _ => false
def isSetB (f : Blt) (z : Str) : Bool := match f with
  | .nset1 => decide (z = ("len" : Str))
  | .ssort1 => decide (z = ("sorted" : Str))
  | _ => false
mutual
def mE (M : MD) (S : SI) : IE → Bool → Expr → Bool
  | .int i, _, x => match x with | .Constant (.int j) _ _ => decide (i = j) | _ => false
  | .str z, _, x => match x with | .Constant (.str y) _ _ => decide (z = y) | _ => false
  | .bl b, _, x => match x with | .Constant (.bool c) _ _ => decide (b = c) | _ => false
  | .non, _, x => match x with | .Constant .none _ _ => true | _ => false
  | .var i, _, x => match x with | .Name y _ => visB S i y | _ => false
  | .glob y, _, x => match x with | .Name z _ => decide (y = z) && glB S y && (M.T.glob y).isSome | _ => false
  | .bin _ op a b, _, x => match x with | .BinOp xa o xb _ => isOp op o && mE M S a false xa && mE M S b false xb | _ => false
  | .neg a, _, x => match x with | .UnaryOp .USub xa _ => mE M S a false xa | _ => false
  | .nt a, t, x => match x with | .UnaryOp .Not xa _ => mE M S a t xa | _ => false
  | .and a b, t, x => match x with
    | .BoolOp .And [xa, xb] _ => mE M S a t xa && mE M S b t xb
    | .BoolOp .And (xa :: xb :: xc :: r) pos => mE M S a t xa && mE M S b t (.BoolOp .And (xb :: xc :: r) pos)
    | _ => false
  | .or a b, t, x => match x with
    | .BoolOp .Or [xa, xb] _ => mE M S a t xa && mE M S b t xb
    | .BoolOp .Or (xa :: xb :: xc :: r) pos => mE M S a t xa && mE M S b t (.BoolOp .Or (xb :: xc :: r) pos)
    | _ => false
  | .cmp op a b, _, x => match x with | .Compare xa [o] [xb] _ => isCop op o && !behindInMarks (copOf op) xb && mE M S a false xa && mE M S b false xb | _ => false
  | .chain op op' a b c, _, x => match x with | .Compare xa [o, o'] [xb, xc] _ => isCop op o && isCop op' o' && !lastMarks [copOf op, copOf op'] [xb, xc] && mE M S a false xa && mE M S b false xb && mE M S c false xc | _ => false
  | .ife c a b, t, x => match x with | .IfExp xc xa xb _ => !t && mE M S c true xc && mE M S a false xa && mE M S b false xb | _ => false
  | .tup es, _, x => match x with | .Tuple xs _ _ => mEs M S es xs | _ => false
  | .lst _ es, _, x => match x with | .List xs _ => mEs M S es xs | _ => false
  | .dct ks es, _, x => match x with | .Dict [] [] _ => ks.isEmpty && mEs M S es [] | .Dict keys vals _ => keysB ks keys && mEs M S es vals && decide (keys.length = vals.length) && !keys.isEmpty && decide (keys.length ≤ 15) | _ => false
  | .call f es, _, x => match x with | .Call (.Name y _) args [] _ => decide (f = y) && glB S f && S.calm && mEs M S es args && (match M.fns.lookup f with | some ps => decide (ps.length = args.length) | none => false) | _ => false
  | .callk f es ks o, _, x => match x with
    | .Call (.Name y _) args kws _ => decide (f = y) && glB S f && S.calm && mEs M S es args && mKs M S ks kws && (match M.fns.lookup f with
      | some ps => decide (o.length = ps.length) && decide ((f, args.length, kws.filterMap (·.arg), o) ∈ M.kws) && decide ((kws.filterMap (·.arg)).length = kws.length)
      | none => false)
    | _ => false
  | .caught c e, _, x => match x with
    | .Call (.Name y _) [.Lambda params body scope _] [] _ => decide (y = M.held.1) && decide (c = M.held.2) && glB S y && nmB c && S.calm && S.lam && cargs params && lamSB S.sc scope && mE M (S.lamb scope) e false body
    | _ => false
  | .blt _ f es, _, x => match es with
    | .nil => false
    | .cons a r => match bltVal f with
      | some (y, _) => match x with | .Call (.Name z _) (xa :: xs) [] _ => decide (y = z) && glB S z && decide (z ∈ M.nob) && S.calm && noStar xa && mE M S a false xa && mEs M S r xs | _ => false
      | none => match r with
        | .nil => match x with
          | .Call (.Name z _) [xa, xc] [] _ => decide (z = ("isinstance" : Str)) && glB S z && decide (z ∈ M.nob) && noStar xa && isTargs f S M xc && mE M S a false xa
          | .Call (.Name z _) [.Call (.Name z2 _) [xa] [] _] [] _ => isSetB f z && glB S z && decide (z ∈ M.nob) && decide (z2 = ("set" : Str)) && glB S z2 && decide (z2 ∈ M.nob) && S.calm && noStar xa && mE M S a false xa
          | _ => false
        | _ => false
  | .meth m o es, _, x => match x with
    | .Call (.Attribute xo name apos) args [] cpos => (match mthT m with | some (_, nm, _) => decide (nm = name) | none => false) && plainO xo && (apos.endLine == cpos.line) && decide (args.length < 30) && mE M S o false xo && mEs M S es args
    | _ => false
  | .idx a b, _, x => match x with | .Subscript xa xb _ => plainI xb && mE M S a false xa && mE M S b false xb | _ => false
  | .sli _ a lo hi, _, x => match x with | .Subscript xa (.Slice xl xh none _) _ => mE M S a false xa && mO M S lo xl && mO M S hi xh | _ => false
  | .rev _ a, _, x => match x with | .Subscript xa (.Slice none none (some (.UnaryOp .USub (.Constant (.int 1) _ _) _)) _) _ => mE M S a false xa | _ => false
  | .comp _ elt tg own it cond, _, x => match x with
    | .ListComp xe [⟨xt, xi, ifs, 0⟩] scope _ => S.calm && blkC S.N S.sc scope (ownOf S own) && ((tgSlots tg).all fun i => decide (i ∈ own)) && plainF xi && mIT M S it xt xi && tgB (S.blk scope) tg xt && mE M (S.blk scope) elt false xe && mC M (S.blk scope) cond ifs
    | _ => false
  | .attr _ _, _, _ => false
  | .new _ _, _, _ => false
  | .callv i es, _, x => match x with | .Call (.Name y _) (a :: args) [] _ => visB S i y && S.calm && mEs M S es (a :: args) | _ => false
def mEs (M : MD) (S : SI) : IEs → List Expr → Bool
  | .nil, xs => xs.isEmpty
  | .cons e es, xs => match xs with | x :: r => noStar x && mE M S e false x && mEs M S es r | [] => false
def mKs (M : MD) (S : SI) : IEs → List Keyword → Bool
  | .nil, xs => xs.isEmpty
  | .cons e es, xs => match xs with | x :: r => mE M S e false x.value && mKs M S es r | [] => false
def mO (M : MD) (S : SI) : IO → Option Expr → Bool
  | .no, x => x.isNone
  | .so e, x => match x with | some y => mE M S e false y | none => false
def mC (M : MD) (S : SI) : IO → List Expr → Bool
  | .no, xs => xs.isEmpty
  | .so e, xs => match xs with | [x] => mE M S e true x | _ => false
def mIT (M : MD) (S : SI) : IT → Expr → Expr → Bool
  | .val e, _, x => mE M S e false x
  | .rng1 a, _, x => match x with | .Call (.Name y _) [xa] [] _ => decide (y = ("range" : Str)) && glB S y && decide (y ∈ M.nob) && noStar xa && mE M S a false xa | _ => false
  | .rng2 a b, _, x => match x with | .Call (.Name y _) [xa, xb] [] _ => decide (y = ("range" : Str)) && glB S y && decide (y ∈ M.nob) && noStar xa && noStar xb && mE M S a false xa && mE M S b false xb | _ => false
  | .rng3 a b c, _, x => match x with | .Call (.Name y _) [xa, xb, xc] [] _ => decide (y = ("range" : Str)) && glB S y && decide (y ∈ M.nob) && noStar xa && noStar xb && noStar xc && mE M S a false xa && mE M S b false xb && mE M S c false xc | _ => false
  | .enum a, t, x => match t with
    | .Tuple _ _ _ => match x with | .Call (.Name y _) [xa] [] _ => decide (y = ("enumerate" : Str)) && glB S y && decide (y ∈ M.nob) && noStar xa && mE M S a false xa | _ => false
    | _ => false
  | .zip a b, t, x => match t with
    | .Tuple _ _ _ => match x with | .Call (.Name y _) [xa, xb] [] _ => decide (y = ("zip" : Str)) && glB S y && decide (y ∈ M.nob) && noStar xa && noStar xb && mE M S a false xa && mE M S b false xb | _ => false
    | _ => false
end
def IEs.len : IEs → Nat
  | .nil => 0
  | .cons _ es => es.len + 1
theorem mEs_len {M : MD} {S : SI} : ∀ {es : IEs} {xs : List Expr}, mEs M S es xs = true → xs.length = es.len ∧ xs.all noStar = true
  | .nil, [], _ => ⟨rfl, rfl⟩
  | .nil, _ :: _, h => by simp [mEs] at h
  | .cons e es, [], h => by simp [mEs] at h
  | .cons e es, x :: r, h => by
    simp only [mEs, Bool.and_eq_true] at h
    obtain ⟨h1, h2⟩ := mEs_len h.2
    exact ⟨by simp [IEs.len, h1], by simp [h.1.1, h2]⟩
theorem mKs_len {M : MD} {S : SI} : ∀ {es : IEs} {xs : List Keyword}, mKs M S es xs = true → xs.length = es.len
  | .nil, [], _ => rfl
  | .nil, _ :: _, h => by simp [mKs] at h
  | .cons e es, [], h => by simp [mKs] at h
  | .cons e es, x :: r, h => by
    simp only [mKs, Bool.and_eq_true] at h
    simp [IEs.len, mKs_len h.2]
theorem evs_len {C : Calls} : ∀ {es : IEs} {env : Env} {s s' : Store} {vs : List PV}, evs C es env s = .ok vs s' → vs.length = es.len
  | .nil, env, s, s', vs, h => by
    simp only [evs] at h
    cases h
    rfl
  | .cons e es, env, s, s', vs, h => by
    simp only [evs] at h
    cases h1 : ev C e env s with
    | exc x s1 => rw [h1] at h; cases h
    | stk => rw [h1] at h; cases h
    | ok x s1 =>
      rw [h1] at h
      simp only [Res.bind_ok] at h
      cases h2 : evs C es env s1 with
      | exc x s2 => rw [h2] at h; cases h
      | stk => rw [h2] at h; cases h
      | ok xs s2 =>
        rw [h2] at h
        simp only [Res.bind_ok] at h
        cases h
        simp [IEs.len, evs_len h2]
end MP

/-! The look at expressions tells the truth. -/
namespace MP
open PySem PySem.Spec PyProof.Rows L2 LamX
section
variable {flds : Fl} {M : MD}
theorem names_pgs {X : Cx} {S : SI} {C : Calls} (ok : SOk X flds M S C) : ∀ {is : List Nat} {xs : List Expr}, xs.length = is.length → ((is.zip xs).all fun p => match p.2 with | .Name y _ => locB S p.1 y | _ => false) = true →
    PGs X xs (gNames is) ∧ (assignEach xs X.env).length = is.length ∧ (assignEach xs X.env).findIdx? (·.1) = none
  | [], [], _, _ => ⟨pgs_nil, rfl, rfl⟩
  | [], _ :: _, h, _ => by simp at h
  | _ :: _, [], h, _ => by simp at h
  | i :: is, x :: xs, h, hb => by
    rw [List.zip_cons_cons, List.all_cons, Bool.and_eq_true] at hb
    obtain ⟨h1, h2, h3⟩ := names_pgs ok (by simpa using h) hb.2
    have hx := hb.1
    dsimp only at hx
    split at hx
    · obtain ⟨l1, l2, l3⟩ := loc_ok ok hx
      refine ⟨pgs_cons (pg_name (by rw [ok.N]; exact ok.nd) l1 l2 l3) h1, ?_, ?_⟩
      · show (assignEach xs X.env).length + 1 = _
        rw [h2]
        rfl
      · show List.findIdx? _ ((false, _) :: assignEach xs X.env) = none
        rw [List.findIdx?_cons]
        simp [h3]
    · cases hx
theorem tg_pg {X : Cx} {S : SI} {C : Calls} (ok : SOk X flds M S C) (hc : X.calm = true) {tg : Tg} {x : Expr} (h : tgB S tg x = true) : PG X x (gTg X.K tg) := by
  cases tg with
  | one i =>
    unfold tgB at h
    dsimp only at h
    split at h
    · obtain ⟨l1, l2, l3⟩ := loc_ok ok h
      exact pg_name (by rw [ok.N]; exact ok.nd) l1 l2 l3
    · cases h
  | many is =>
    unfold tgB at h
    dsimp only at h
    split at h
    · rw [Bool.and_eq_true, decide_eq_true_eq] at h
      obtain ⟨h1, h2, h3⟩ := names_pgs ok h.1 h.2
      exact pg_tup hc h1 h2 h3
    · cases h
theorem SOk.blk {X : Cx} {S : SI} {C : Calls} (ok : SOk X flds M S C) {scope : Scope} (hk : scope.kind = .function) (s : Shared) (H : Hp) (Cc : Addr) (cl : List (Str × Addr)) (fp : List Addr) : SOk (X.blk s H scope (compEnvC scope cl Cc X.env) fp) flds M (S.blk scope) C where
  mod := ok.mod
  N := ok.N
  nd := ok.nd
  sc := by
    show relS scope X.env.scope = relS scope S.sc
    rw [ok.sc]
  kind := hk
  calm := ok.calm
  fn := fun x h => h
  un := ok.un
  calls := ok.calls
  lamT := ok.lamT
  top := fun h => by cases h
  cg := ok.cg
  cs := ok.cs
theorem SOk.lamb {X : Cx} {S : SI} {C : Calls} (ok : SOk X flds M S C) {scope : Scope} (hk : scope.kind = .function) {A : Around} {outer : List PySem.Env} {s : Shared} {H : Hp} {E : XK} {f c' : Addr} {r : Nat} (hr : RoomG r (A.deeper (lamEnv X scope s.heap.objs.size f c')))
    (ck : COk X.prog X.w X.K X.mg X.base flds M r C.down) : SOk (lamCx X A outer s H E scope f c') flds M (S.lamb scope) C.down where
  mod := ok.mod
  N := ok.N
  nd := ok.nd
  sc := rfl
  kind := hk
  calm := fun _ => rfl
  fn := fun x h => by cases h
  un := by
    have := hr.r.un
    show (A.deeper (lamEnv X scope s.heap.objs.size f c')).units + 65 < cLine
    omega
  calls := fun _ => ⟨r, hr, ck, fun h => by cases h⟩
  lamT := fun h => by cases h
  top := fun h => by cases h
  cg := ok.cg
  cs := ok.cs
theorem keys_ok {X : Cx} {S : SI} {C : Calls} {es : IEs} : ∀ {ks : List Key} {keys : List (Option Expr)}, keysB ks keys = true → keys.all (·.isSome) = true ∧ keys.length = ks.length
  | [], [], _ => ⟨rfl, rfl⟩
  | [], _ :: _, h => by simp [keysB] at h
  | _ :: _, [], h => by simp [keysB] at h
  | k :: ks, none :: _, h => by simp [keysB] at h
  | k :: ks, some e :: xs, h => by
    cases e <;> simp only [keysB] at h <;> first | cases h; done | skip
    rw [Bool.and_eq_true] at h
    obtain ⟨h1, h2⟩ := keys_ok (X := X) (S := S) (C := C) (es := es) h.2
    exact ⟨by simp [h1], by simp [h2]⟩
theorem key_const {X : Cx} {k : Key} {c : Const} {j : Nat} {p : Pos} (h : (match k, c with | .inl i, .int j => decide (i = j) | .inr z, .str y => decide (z = y) | _, _ => false) = true) : PE X (.Constant c j p) (tC (kV k)) := by
  split at h
  · have := of_decide_eq_true h
    subst this
    exact pe_int
  · have := of_decide_eq_true h
    subst this
    exact pe_str
  · cases h
theorem args_is {a : Arguments} (h : cargs a = true) : a = ⟨[], [], none, [], [], none, []⟩ := by
  unfold cargs at h
  split at h
  · rfl
  · cases h
theorem blk_own {S : SI} {X : Cx} {C : Calls} (ok : SOk X flds M S C) {scope : Scope} {own : List Nat} (h : blkC S.N S.sc scope (ownOf S own) = true) : BlkOk X.N X.env.scope scope (ownOf S own) := by
  rw [ok.N, ok.sc]
  exact blkOk_by h
theorem own_snd (S : SI) (own : List Nat) : (ownOf S own).map (·.2) = own := by
  unfold ownOf
  rw [List.map_map]
  show own.map id = own
  exact List.map_id own
theorem few_ok {es : List Expr} {cpos : Pos} {env : PySem.Env} (h : es.all noStar = true) (hl : es.length < 30) : ((backTo cpos (starEach es env)).all (fun x => !x.1) && (backToKw cpos (keywordEach [] env)).all (fun x => x.1.isSome)
      && decide (es.length + ([] : List Keyword).length + (if ([] : List Keyword).isEmpty then 0 else 1) < 30)) = true := by
  rw [star_all h]
  simp [keywordEach, backToKw, hl]
theorem kw_all {pos : Pos} {env : PySem.Env} : ∀ {kws : List Keyword}, (kws.filterMap (·.arg)).length = kws.length → (backToKw pos (keywordEach kws env)).all (·.1.isSome) = true ∧ (backToKw pos (keywordEach kws env)).filterMap (·.1) = kws.filterMap (·.arg) ∧ (backToKw pos (keywordEach kws env)).any (·.1.isNone) = false
  | [], _ => ⟨rfl, rfl, rfl⟩
  | ⟨none, v, p⟩ :: kws, h => by
    exfalso
    have := List.length_filterMap_le (fun k : Keyword => k.arg) kws
    simp at h
    omega
  | ⟨some n, v, p⟩ :: kws, h => by
    obtain ⟨h1, h2, h3⟩ := kw_all (pos := pos) (env := env) (kws := kws) (by simpa using h)
    refine ⟨?_, ?_, ?_⟩
    · show (true && (backToKw pos (keywordEach kws env)).all (·.1.isSome)) = true
      rw [h1]
      rfl
    · show n :: (backToKw pos (keywordEach kws env)).filterMap (·.1) = n :: kws.filterMap (·.arg)
      rw [h2]
    · show (false || (backToKw pos (keywordEach kws env)).any (·.1.isNone)) = false
      rw [h3]
      rfl
def cndS (C : Calls) : IO → Env → Store → Res Bool
  | .no => fun _ s => .ok true s
  | .so c => fun env s => (ev C c env s).bind fun x s => Res.of (truth s x) s
mutual
theorem mE_ok : ∀ (e : IE) (t : Bool) (x : Expr) {X : Cx} {S : SI} {C : Calls}, SOk X flds M S C → mE M S e t x = true → Sd X flds t x (fun env s => ev C e env s)
  | .int i, t, x, X, S, C, ok, h => by
    simp only [mE] at h
    split at h <;> first | cases h; done | skip
    have := of_decide_eq_true h
    subst this
    refine sd_val rfl ?_
    simp only [ev]
    exact sx_int
  | .str z, t, x, X, S, C, ok, h => by
    simp only [mE] at h
    split at h <;> first | cases h; done | skip
    have := of_decide_eq_true h
    subst this
    refine sd_val rfl ?_
    simp only [ev]
    exact sx_str
  | .bl b, t, x, X, S, C, ok, h => by
    simp only [mE] at h
    split at h <;> first | cases h; done | skip
    have := of_decide_eq_true h
    subst this
    refine sd_val rfl ?_
    simp only [ev]
    exact sx_bl
  | .non, t, x, X, S, C, ok, h => by
    simp only [mE] at h
    split at h <;> first | cases h; done | skip
    refine sd_val rfl ?_
    simp only [ev]
    exact sx_non
  | .var i, t, x, X, S, C, ok, h => by
    simp only [mE] at h
    split at h <;> first | cases h; done | skip
    refine sd_val rfl ?_
    have e : (fun env s => ev C (.var i) env s) = varSem i := by
      funext env s
      simp only [ev, varSem] <;> rfl
    rw [e]
    exact vis_ok ok h
  | .glob y, t, x, X, S, C, ok, h => by
    simp only [mE] at h
    split at h <;> first | cases h; done | skip
    simp only [Bool.and_eq_true, decide_eq_true_eq] at h
    obtain ⟨⟨rfl, h2⟩, h3⟩ := h
    obtain ⟨g1, g2, g3⟩ := gl_ok ok h2
    obtain ⟨p, hp⟩ := Option.isSome_iff_exists.mp h3
    obtain ⟨u, v, m1, m2, m3⟩ := ok.mod.glob _ _ hp
    refine sd_val rfl ?_
    have e : (fun env s => ev C (.glob y) env s) = fun (_ : Env) s => .ok p s := by
      funext env s
      simp only [ev]
      rw [ok.cg, hp]
      rfl
    rw [e]
    exact sx_glob g1 m1 m2 m3 g2
  | .bin bx op a b, t, x, X, S, C, ok, h => by
    simp only [mE] at h
    split at h <;> first | cases h; done | skip
    simp only [Bool.and_eq_true] at h
    obtain ⟨⟨h1, h2⟩, h3⟩ := h
    have := isOp_eq h1
    subst this
    refine sd_val rfl ?_
    simp only [ev]
    exact sx_bin (sd_f (mE_ok a false _ ok h2)) (sd_f (mE_ok b false _ ok h3))
  | .neg a, t, x, X, S, C, ok, h => by
    simp only [mE] at h
    split at h <;> first | cases h; done | skip
    refine sd_val rfl ?_
    simp only [ev]
    exact sx_neg (sd_f (mE_ok a false _ ok h))
  | .nt a, t, x, X, S, C, ok, h => by
    simp only [mE] at h
    split at h <;> first | cases h; done | skip
    cases t with
    | false =>
      show PEv X flds _ _
      simp only [ev]
      exact sx_nt (sd_f (mE_ok a false _ ok h))
    | true =>
      refine ⟨?_, fun op vs pos e => by cases e⟩
      simp only [ev]
      exact tst_nt (sd_t (mE_ok a true _ ok h))
  | .and a b, t, x, X, S, C, ok, h => by
    simp only [mE] at h
    have e : (fun env s => ev C (.and a b) env s) = andSem (fun env s => ev C a env s) (fun env s => ev C b env s) := by
      funext env s
      simp only [ev, andSem]
    rw [e]
    split at h <;> first | cases h; done | skip
    · simp only [Bool.and_eq_true] at h
      cases t with
      | false => exact sx_and (sd_f (mE_ok a false _ ok h.1)) (sx_one (sd_f (mE_ok b false _ ok h.2)))
      | true =>
        have w := fun pos => tw_and (pos := pos) (sd_t (mE_ok a true _ ok h.1)) (tw_one (sd_t (mE_ok b true _ ok h.2)))
        exact ⟨tst_w (w _), fun op vs pos e => by cases e; exact w _⟩
    · simp only [Bool.and_eq_true] at h
      cases t with
      | false => exact sx_and (sd_f (mE_ok a false _ ok h.1)) (sd_f (mE_ok b false _ ok h.2))
      | true =>
        have w := tw_and (sd_t (mE_ok a true _ ok h.1)) ((mE_ok b true _ ok h.2).2 _ _ _ rfl)
        exact ⟨tst_w w, fun op vs pos e => by cases e; exact w⟩
  | .or a b, t, x, X, S, C, ok, h => by
    simp only [mE] at h
    have e : (fun env s => ev C (.or a b) env s) = orSem (fun env s => ev C a env s) (fun env s => ev C b env s) := by
      funext env s
      simp only [ev, orSem]
    rw [e]
    split at h <;> first | cases h; done | skip
    · simp only [Bool.and_eq_true] at h
      cases t with
      | false => exact sx_or (sd_f (mE_ok a false _ ok h.1)) (sx_one (sd_f (mE_ok b false _ ok h.2)))
      | true =>
        have w := fun pos => tw_or (pos := pos) (sd_t (mE_ok a true _ ok h.1)) (tw_one (sd_t (mE_ok b true _ ok h.2)))
        exact ⟨tst_w (w _), fun op vs pos e => by cases e; exact w _⟩
    · simp only [Bool.and_eq_true] at h
      cases t with
      | false => exact sx_or (sd_f (mE_ok a false _ ok h.1)) (sd_f (mE_ok b false _ ok h.2))
      | true =>
        have w := tw_or (sd_t (mE_ok a true _ ok h.1)) ((mE_ok b true _ ok h.2).2 _ _ _ rfl)
        exact ⟨tst_w w, fun op vs pos e => by cases e; exact w⟩
  | .cmp op a b, t, x, X, S, C, ok, h => by
    simp only [mE] at h
    split at h <;> first | cases h; done | skip
    simp only [Bool.and_eq_true, Bool.not_eq_true'] at h
    obtain ⟨⟨⟨h1, h2⟩, h3⟩, h4⟩ := h
    have := isCop_eq h1
    subst this
    cases t with
    | false =>
      show PEv X flds _ _
      simp only [ev]
      exact sx_cmp ok.un h2 (sd_f (mE_ok a false _ ok h3)) (sd_f (mE_ok b false _ ok h4))
    | true =>
      refine ⟨?_, fun op vs pos e => by cases e⟩
      simp only [ev]
      exact tst_cmp ok.un h2 (sd_f (mE_ok a false _ ok h3)) (sd_f (mE_ok b false _ ok h4))
  | .chain op op' a b c, t, x, X, S, C, ok, h => by
    simp only [mE] at h
    split at h <;> first | cases h; done | skip
    simp only [Bool.and_eq_true, Bool.not_eq_true'] at h
    obtain ⟨⟨⟨⟨⟨h1, h2⟩, h3⟩, h4⟩, h5⟩, h6⟩ := h
    have := isCop_eq h1
    subst this
    have := isCop_eq h2
    subst this
    cases t with
    | false =>
      show PEv X flds _ _
      simp only [ev]
      exact sx_chain ok.un h3 (sd_f (mE_ok a false _ ok h4)) (sd_f (mE_ok b false _ ok h5)) (sd_f (mE_ok c false _ ok h6))
    | true =>
      refine ⟨?_, fun op vs pos e => by cases e⟩
      simp only [ev]
      exact tst_chain ok.un h3 (sd_f (mE_ok a false _ ok h4)) (sd_f (mE_ok b false _ ok h5)) (sd_f (mE_ok c false _ ok h6))
  | .ife c a b, t, x, X, S, C, ok, h => by
    simp only [mE] at h
    split at h <;> first | cases h; done | skip
    simp only [Bool.and_eq_true, Bool.not_eq_true'] at h
    obtain ⟨⟨⟨rfl, h2⟩, h3⟩, h4⟩ := h
    show PEv X flds _ _
    simp only [ev]
    exact sx_ife (sd_t (mE_ok c true _ ok h2)) (sd_f (mE_ok a false _ ok h3)) (sd_f (mE_ok b false _ ok h4))
  | .tup es, t, x, X, S, C, ok, h => by
    simp only [mE] at h
    split at h <;> first | cases h; done | skip
    refine sd_val rfl ?_
    simp only [ev]
    exact sx_tup (mEs_ok es _ ok h)
  | .lst bx es, t, x, X, S, C, ok, h => by
    simp only [mE] at h
    split at h <;> first | cases h; done | skip
    refine sd_val rfl ?_
    simp only [ev]
    exact sx_lst (mEs_ok es _ ok h)
  | .dct ks es, t, x, X, S, C, ok, h => by
    simp only [mE] at h
    split at h
    · rename_i pos
      rw [Bool.and_eq_true] at h
      obtain ⟨h1, h2⟩ := h
      cases ks with
      | cons _ _ => cases h1
      | nil =>
        cases es with
        | cons _ _ => simp [mEs] at h2
        | nil =>
          refine sd_val rfl ?_
          have e : (fun env s => ev C (.dct [] .nil) env s) = fun _ s => .ok (.obj s.length) (s ++ [.dct []]) := by
            funext env s
            have e1 : (s ++ [SO.dct []])[s.length]? = some (.dct []) := by simp
            have e2 : (s ++ [SO.dct []]).set s.length (.dct []) = s ++ [.dct []] := by simp
            simp only [ev, evs, Res.bind_ok, e1]
            rw [if_pos ⟨rfl, by decide, List.nodup_nil⟩]
            exact congrArg (Res.ok (PV.obj s.length)) e2
          rw [e]
          exact sx_dct0
    · simp only [Bool.and_eq_true, Bool.not_eq_true', decide_eq_true_eq] at h
      obtain ⟨⟨⟨⟨h1, h2⟩, h3⟩, h4⟩, h5⟩ := h
      refine sd_val rfl ?_
      simp only [ev]
      exact sx_dct (mD_ok es _ _ _ ok h3 h1 h2) (keys_ok (X := X) (S := S) (C := C) (es := es) h1).1 h3 (by intro z; subst z; cases h4) h5
    · cases h
  | .callv i es, t, x, X, S, C, ok, h => by
    simp only [mE] at h
    split at h <;> first | cases h; done | skip
    rename_i y p a args pos
    simp only [Bool.and_eq_true] at h
    obtain ⟨⟨h1, h2⟩, h3⟩ := h
    obtain ⟨r, hr, ck, _⟩ := ok.calls h2
    obtain ⟨hl, hst⟩ := mEs_len h3
    rw [List.all_cons, Bool.and_eq_true] at hst
    refine sd_val rfl ?_
    simp only [ev]
    unfold visB at h1
    simp only [Bool.and_eq_true, Bool.or_eq_true, decide_eq_true_eq] at h1
    obtain ⟨⟨v1, v2⟩, v3⟩ := h1
    obtain ⟨n1, n2, _⟩ := nm_ok v3
    refine sx_callv (kk := r) (fun y q hq => ?_) hr (by rw [ok.N]; exact v1) ?_ n1 n2 (star_cons hst.1) (star_plain hst.2) (mEs_ok es _ ok h3)
    · rw [ck.glob] at hq
      obtain ⟨ps, hm⟩ := ok.mod.gfn y q hq
      obtain ⟨fa, fd, c1, c2, c3, c4, c5⟩ := ck.fns y ps hm
      exact ⟨fa, fd, ps, c1, c2, c3, ck.ar y ps hm, c5⟩
    · unfold Vis
      rw [ok.sc]
      rcases v2 with (h | h) | h
      · exact .inl h
      · exact .inr (.inl h)
      · exact .inr (.inr h)
  | .call f es, t, x, X, S, C, ok, h => by
    simp only [mE] at h
    split at h <;> first | cases h; done | skip
    rename_i y p args pos
    simp only [Bool.and_eq_true, decide_eq_true_eq] at h
    obtain ⟨⟨⟨⟨rfl, h2⟩, h3⟩, h4⟩, h5⟩ := h
    cases hf : M.fns.lookup f with
    | none => rw [hf] at h5; cases h5
    | some ps =>
      rw [hf] at h5
      have h5 := of_decide_eq_true h5
      obtain ⟨r, hr, ck, _⟩ := ok.calls h3
      obtain ⟨fa, fd, c1, c2, c3, c4, c5⟩ := ck.fns f ps (PySem.mem_of_lookup hf)
      obtain ⟨g1, g2, g3⟩ := gl_ok ok h2
      obtain ⟨hl, hst⟩ := mEs_len h4
      refine sd_val rfl ?_
      simp only [ev]
      cases args with
      | nil =>
        cases es with
        | cons _ _ => simp [mEs] at h4
        | nil =>
          have hps : ps.length = 0 := h5
          rw [hps] at c5
          simp only [evs, Res.bind_ok]
          exact sx_call0 c5 hr g1 c1 c2 c3 g2
      | cons a r =>
        rw [List.all_cons, Bool.and_eq_true] at hst
        exact sx_call c5 hr g1 c1 c2 c3 g2 (star_cons hst.1) (star_plain hst.2) h5.symm (fun env s vs s' e => by rw [evs_len e, hl]) (mEs_ok es _ ok h4)
  | .callk f es ks o, t, x, X, S, C, ok, h => by
    simp only [mE] at h
    split at h <;> first | cases h; done | skip
    rename_i y p args kws pos
    simp only [Bool.and_eq_true, decide_eq_true_eq] at h
    obtain ⟨⟨⟨⟨⟨rfl, h2⟩, h3⟩, h4⟩, h5⟩, h6⟩ := h
    cases hf : M.fns.lookup f with
    | none => rw [hf] at h6; cases h6
    | some ps =>
      rw [hf] at h6
      simp only [Bool.and_eq_true, decide_eq_true_eq] at h6
      obtain ⟨⟨q1, q2⟩, q3⟩ := h6
      obtain ⟨r, hr, ck, _⟩ := ok.calls h3
      obtain ⟨fa, fd, c1, c2, c3, c4, c5⟩ := ck.fns f ps (PySem.mem_of_lookup hf)
      obtain ⟨g1, g2, g3⟩ := gl_ok ok h2
      obtain ⟨hl, hst⟩ := mEs_len h4
      obtain ⟨k1, k2, k3⟩ := kw_all (pos := pos) (env := X.env) q3
      have hkl := mKs_len h5
      refine sd_val rfl ?_
      simp only [ev]
      cases args with
      | nil =>
        cases es with
        | cons _ _ => simp [mEs] at h4
        | nil =>
          simp only [evs, Res.bind_ok, List.nil_append]
          exact sx_callK0 c5 hr g1 c1 c2 g2 (c4 _ _ _ q2) q1 k1 k2 (by rw [k3]; rfl) (fun env s vs s' e => by rw [evs_len e, q3, hkl]) (mKs_ok ks _ ok h5)
      | cons a r =>
        rw [List.all_cons, Bool.and_eq_true] at hst
        refine sx_callK c5 hr g1 c1 c2 g2 (c4 _ _ _ q2) q1 k1 k2 ?_ (star_cons hst.1) (fun env s vs s' e => by rw [evs_len e, hl]) (fun env s vs s' e => by rw [evs_len e, q3, hkl]) (mEs_ok es _ ok h4) (mKs_ok ks _ ok h5)
        rw [k3, star_cons hst.1]
        show ((false || (backTo pos (starEach r X.env)).any (·.1)) || false) = false
        rw [star_plain hst.2]
        rfl
  | .caught c e, t, x, X, S, C, ok, h => by
    simp only [mE] at h
    split at h <;> first | cases h; done | skip
    rename_i y p params body scope lpos pos
    simp only [Bool.and_eq_true, decide_eq_true_eq] at h
    obtain ⟨⟨⟨⟨⟨⟨⟨⟨rfl, rfl⟩, h2⟩, h3⟩, h4⟩, h5⟩, h6⟩, h7⟩, h8⟩ := h
    have := args_is h6
    subst this
    obtain ⟨gA, fd, CS, st, m1, m2, m3, m4, m5, m6, m7⟩ := ok.mod.held
    obtain ⟨r, hr, ck, hlam⟩ := ok.calls h4
    obtain ⟨r', hr', ck'⟩ := hlam h5
    obtain ⟨cc, P, l1, l2, l3, l4⟩ := ok.lamT h5
    obtain ⟨g1, g2, g3⟩ := gl_ok ok h2
    refine sd_val rfl ?_
    simp only [ev]
    rw [ok.cs]
    have L : LamS X.env.scope scope := lamS_by (by rw [ok.sc]; exact h7)
    exact sx_caught g1 m1 g2 m2 m3 m4 m5 m6 m7 (nm_ok h3).1 ok.mod.xf l2 l1 l3 l4 (hr.mono hr') L rfl (fun _ _ _ _ _ => rfl) fun A outer s H E f c' hr3 => sd_f (mE_ok e false _ (SOk.lamb ok L.kind hr3 ck') h8)
  | .blt bx f .nil, t, x, X, S, C, ok, h => by simp [mE] at h
  | .blt bx f (.cons a r), t, x, X, S, C, ok, h => by
      simp only [mE] at h
      split at h
      · rename_i y u hb
        split at h <;> first | cases h; done | skip
        rename_i z p xa xs pos
        simp only [Bool.and_eq_true, decide_eq_true_eq] at h
        obtain ⟨⟨⟨⟨⟨⟨rfl, h2⟩, h3⟩, h4⟩, h5⟩, h6⟩, h7⟩ := h
        obtain ⟨g1, g2, g3⟩ := gl_ok ok h2
        obtain ⟨hl, hst⟩ := mEs_len h7
        refine sd_val rfl ?_
        simp only [ev, evs]
        have ha : PAv X flds (xa :: xs) _ := sx_cons (star_cons h5) (sd_f (mE_ok a false _ ok h6)) (mEs_ok r _ ok h7)
        obtain ⟨_, hr0, _, _⟩ := ok.calls h4
        exact sx_blt ok.un hr0.g (ok.calm h4) hb g1 (ok.mod.nob _ h3) (star_cons h5) (star_plain hst) ha
      · split at h <;> first | cases h; done | skip
        split at h <;> first | cases h; done | skip
        rotate_left
        · rename_i z p z2 p2 xa q pos
          simp only [Bool.and_eq_true, decide_eq_true_eq] at h
          obtain ⟨⟨⟨⟨⟨⟨⟨⟨h1, h2⟩, h3⟩, rfl⟩, h5⟩, h6⟩, h7⟩, h8⟩, h9⟩ := h
          obtain ⟨g1, g2, g3⟩ := gl_ok ok h2
          obtain ⟨k1, k2, k3⟩ := gl_ok ok h5
          refine sd_val rfl ?_
          have e : (fun env s => ev C (.blt bx f (.cons a .nil)) env s) = fun env s => (ev C a env s).bind fun x s => mkO bx (bltSem M.T.sub f s [x]) s := by
            funext env s
            simp only [ev, evs, ok.cs]
            cases ev C a env s <;> simp only [Res.bind_ok, Res.bind_exc, Res.bind_stk, ok.cs]
          rw [e]
          unfold isSetB at h1
          split at h1 <;> first | cases h1; done | skip
          · have h1 := of_decide_eq_true h1
            subst h1
            exact sx_nset (ok.calm h7) g1 (ok.mod.nob _ h3) k1 (ok.mod.nob _ h6) (star_cons h8) (sd_f (mE_ok a false _ ok h9))
          · have h1 := of_decide_eq_true h1
            subst h1
            exact sx_ssort (ok.calm h7) g1 (ok.mod.nob _ h3) k1 (ok.mod.nob _ h6) (star_cons h8) (sd_f (mE_ok a false _ ok h9))
        rename_i z p xa xc pos
        simp only [Bool.and_eq_true, decide_eq_true_eq] at h
        obtain ⟨⟨⟨⟨⟨rfl, h2⟩, h3⟩, h4⟩, h5⟩, h6⟩ := h
        obtain ⟨g1, g2, g3⟩ := gl_ok ok h2
        refine sd_val rfl ?_
        have e : (fun env s => ev C (.blt bx f (.cons a .nil)) env s) = fun env s => (ev C a env s).bind fun x s => mkO bx (bltSem M.T.sub f s [x]) s := by
          funext env s
          simp only [ev, evs, ok.cs]
          cases ev C a env s <;> simp only [Res.bind_ok, Res.bind_exc, Res.bind_stk, ok.cs]
        rw [e]
        unfold isTargs at h5
        split at h5 <;> first | cases h5; done | skip
        · simp only [Bool.and_eq_true, decide_eq_true_eq] at h5
          obtain ⟨⟨⟨t1, t2⟩, t3⟩, t4⟩ := h5
          obtain ⟨k1, k2, k3⟩ := gl_ok ok t3
          exact sx_isT g1 (ok.mod.nob _ h3) t1 k1 (ok.mod.nob _ t4) t2 k3 k2 (star_cons h4) rfl rfl (sd_f (mE_ok a false _ ok h6))
        · simp only [Bool.and_eq_true, decide_eq_true_eq] at h5
          obtain ⟨⟨rfl, t2⟩, t3⟩ := h5
          obtain ⟨k1, k2, k3⟩ := gl_ok ok t2
          obtain ⟨b, hb⟩ := Option.isSome_iff_exists.mp t3
          obtain ⟨_, CC, _, q2, _⟩ := ok.mod.xf.own _ _ _ hb
          exact sx_isC ok.mod.xf g1 (ok.mod.nob _ h3) k1 q2 k2 (star_cons h4) rfl rfl (sd_f (mE_ok a false _ ok h6))
  | .meth m o es, t, x, X, S, C, ok, h => by
    simp only [mE] at h
    split at h <;> first | cases h; done | skip
    rename_i xo name apos args cpos
    simp only [Bool.and_eq_true, decide_eq_true_eq] at h
    obtain ⟨⟨⟨⟨⟨h1, h2⟩, h3⟩, h4⟩, h5⟩, h6⟩ := h
    cases hm : mthT m with
    | none => rw [hm] at h1; cases h1
    | some q =>
      obtain ⟨T, nm, id⟩ := q
      rw [hm] at h1
      have := of_decide_eq_true h1
      subst this
      obtain ⟨hl, hst⟩ := mEs_len h6
      refine sd_val rfl ?_
      simp only [ev]
      cases args with
      | nil =>
        cases es with
        | cons _ _ => simp [mEs] at h6
        | nil =>
          simp only [evs, Res.bind_ok]
          exact sx_meth0 hm (base_plain h2) h3 (sd_f (mE_ok o false _ ok h5))
      | cons a r =>
        have hst' := hst
        rw [List.all_cons, Bool.and_eq_true] at hst
        exact sx_meth hm (base_plain h2) h3 (few_ok hst' h4) (star_cons hst.1) (star_plain hst.2) (sd_f (mE_ok o false _ ok h5)) (mEs_ok es _ ok h6)
  | .idx a b, t, x, X, S, C, ok, h => by
    simp only [mE] at h
    split at h <;> first | cases h; done | skip
    simp only [Bool.and_eq_true] at h
    refine sd_val rfl ?_
    simp only [ev]
    have hu := ok.un
    exact sx_idx (by omega) (plainIx h.1.1) (sd_f (mE_ok a false _ ok h.1.2)) (sd_f (mE_ok b false _ ok h.2))
  | .sli bx a lo hi, t, x, X, S, C, ok, h => by
    simp only [mE] at h
    split at h <;> first | cases h; done | skip
    simp only [Bool.and_eq_true] at h
    refine sd_val rfl ?_
    simp only [ev]
    exact sx_sli (sd_f (mE_ok a false _ ok h.1.1)) (mO_ok lo _ ok h.1.2) (mO_ok hi _ ok h.2)
  | .rev bx a, t, x, X, S, C, ok, h => by
    simp only [mE] at h
    split at h <;> first | cases h; done | skip
    refine sd_val rfl ?_
    simp only [ev]
    exact sx_rev (sd_f (mE_ok a false _ ok h))
  | .comp bx elt tg own it cond, t, x, X, S, C, ok, h => by
    simp only [mE] at h
    split at h <;> first | cases h; done | skip
    rename_i xe xt xi ifs scope pos
    simp only [Bool.and_eq_true, List.all_eq_true, decide_eq_true_eq] at h
    obtain ⟨⟨⟨⟨⟨⟨⟨h1, h2⟩, h3⟩, h4⟩, h5⟩, h6⟩, h7⟩, h8⟩ := h
    have bo := blk_own ok h2
    refine sd_val rfl ?_
    have key := sx_comp (bx := bx) (elt := xe) (tg := xt) (iter := xi) (ifs := ifs) (pos := pos) (ok.calm h1) (by rw [ok.N]; exact ok.nd) (tgi := tg) (own := ownOf S own) (by rw [own_snd]; exact h3) bo (folded_plain h4) (mIT_ok it _ _ ok h5)
      (fun s H Cc cl fp => tg_pg (SOk.blk ok bo.kind s H Cc cl fp) (ok.calm h1) h6) (fun s H Cc cl fp => mC_ok cond _ (SOk.blk ok bo.kind s H Cc cl fp) h8) (fun s H Cc cl fp => sd_f (mE_ok elt false _ (SOk.blk ok bo.kind s H Cc cl fp) h7))
    rw [own_snd] at key
    have e : (fun env s => ev C (.comp bx elt tg own it cond) env s) = fun env s => (evit C it env s).bind fun w s =>
      (compLoop (compF tg own (cndS C cond) (fun env s => ev C elt env s) env) w.live w.items [] s).bind fun xs s => mkL bx (.lst xs) s := by
      funext env s
      cases cond <;> simp only [ev, cndS]
    rw [e]
    exact key
  | .attr _ _, t, x, X, S, C, ok, h => by simp [mE] at h
  | .new _ _, t, x, X, S, C, ok, h => by simp [mE] at h
theorem mEs_ok : ∀ (es : IEs) (xs : List Expr) {X : Cx} {S : SI} {C : Calls}, SOk X flds M S C → mEs M S es xs = true → PAv X flds xs (fun env s => evs C es env s)
  | .nil, [], X, S, C, ok, h => by
    simp only [evs]
    exact sx_nil
  | .nil, _ :: _, X, S, C, ok, h => by simp [mEs] at h
  | .cons e es, [], X, S, C, ok, h => by simp [mEs] at h
  | .cons e es, x :: xs, X, S, C, ok, h => by
    simp only [mEs, Bool.and_eq_true] at h
    simp only [evs]
    exact sx_cons (star_cons h.1.1) (sd_f (mE_ok e false _ ok h.1.2)) (mEs_ok es _ ok h.2)
theorem mD_ok : ∀ (es : IEs) (xs : List Expr) (ks : List Key) (keys : List (Option Expr)) {X : Cx} {S : SI} {C : Calls}, SOk X flds M S C → keys.length = xs.length → keysB ks keys = true → mEs M S es xs = true → DctV X flds keys xs ks (fun env s => evs C es env s)
  | .nil, [], [], [], X, S, C, ok, hl, hk, h => by
    simp only [evs]
    exact .nil
  | .nil, [], _ :: _, [], X, S, C, ok, hl, hk, h => by simp [keysB] at hk
  | .nil, [], _, _ :: _, X, S, C, ok, hl, hk, h => by simp at hl
  | .nil, _ :: _, ks, keys, X, S, C, ok, hl, hk, h => by simp [mEs] at h
  | .cons e es, [], ks, keys, X, S, C, ok, hl, hk, h => by simp [mEs] at h
  | .cons e es, x :: xs, ks, [], X, S, C, ok, hl, hk, h => by simp at hl
  | .cons e es, x :: xs, [], _ :: _, X, S, C, ok, hl, hk, h => by simp [keysB] at hk
  | .cons e es, x :: xs, k :: ks, none :: keys, X, S, C, ok, hl, hk, h => by simp [keysB] at hk
  | .cons e es, x :: xs, k :: ks, some ke :: keys, X, S, C, ok, hl, hk, h => by
    cases ke <;> simp only [keysB] at hk <;> first | cases hk; done | skip
    rw [Bool.and_eq_true] at hk
    simp only [mEs, Bool.and_eq_true] at h
    simp only [evs]
    exact .cons (key_const hk.1) (sd_f (mE_ok e false _ ok h.1.2)) (mD_ok es _ _ _ ok (by simpa using hl) hk.2 h.2)
theorem mKs_ok : ∀ (es : IEs) (xs : List Keyword) {X : Cx} {S : SI} {C : Calls}, SOk X flds M S C → mKs M S es xs = true → PKv X flds xs (fun env s => evs C es env s)
  | .nil, [], X, S, C, ok, h => by
    simp only [evs]
    exact kx_nil
  | .nil, _ :: _, X, S, C, ok, h => by simp [mKs] at h
  | .cons e es, [], X, S, C, ok, h => by simp [mKs] at h
  | .cons e es, ⟨nm, v, p⟩ :: xs, X, S, C, ok, h => by
    simp only [mKs, Bool.and_eq_true] at h
    simp only [evs]
    exact kx_cons (sd_f (mE_ok e false _ ok h.1)) (mKs_ok es _ ok h.2)
theorem mO_ok : ∀ (o : IO) (x : Option Expr) {X : Cx} {S : SI} {C : Calls}, SOk X flds M S C → mO M S o x = true → POv X flds x (fun env s => evo C o env s)
  | .no, none, X, S, C, ok, h => by
    simp only [evo]
    exact so_no
  | .no, some _, X, S, C, ok, h => by simp [mO] at h
  | .so e, none, X, S, C, ok, h => by simp [mO] at h
  | .so e, some x, X, S, C, ok, h => by
    simp only [mO] at h
    simp only [evo]
    exact so_so (sd_f (mE_ok e false _ ok h))
theorem mC_ok : ∀ (o : IO) (xs : List Expr) {X : Cx} {S : SI} {C : Calls}, SOk X flds M S C → mC M S o xs = true → PTsv X flds xs (cndS C o)
  | .no, [], X, S, C, ok, h => tss_nil
  | .no, _ :: _, X, S, C, ok, h => by simp [mC] at h
  | .so e, [], X, S, C, ok, h => by simp [mC] at h
  | .so e, [x], X, S, C, ok, h => by
    simp only [mC] at h
    exact tss_one (sd_t (mE_ok e true _ ok h))
  | .so e, _ :: _ :: _, X, S, C, ok, h => by simp [mC] at h
theorem mIT_ok : ∀ (it : IT) (tg x : Expr) {X : Cx} {S : SI} {C : Calls}, SOk X flds M S C → mIT M S it tg x = true → PIv X flds tg x (fun env s => evit C it env s)
  | .val e, tg, x, X, S, C, ok, h => by
    simp only [mIT] at h
    simp only [evit]
    exact sx_walk (sd_f (mE_ok e false _ ok h))
  | .rng1 a, tg, x, X, S, C, ok, h => by
    simp only [mIT] at h
    split at h <;> first | cases h; done | skip
    simp only [Bool.and_eq_true, decide_eq_true_eq] at h
    obtain ⟨⟨⟨⟨rfl, h2⟩, h3⟩, h4⟩, h5⟩ := h
    simp only [evit]
    exact sx_rng1 (gl_ok ok h2).1 (ok.mod.nob _ h3) (star_cons h4) (star_cons h4) (sd_f (mE_ok a false _ ok h5))
  | .rng2 a b, tg, x, X, S, C, ok, h => by
    simp only [mIT] at h
    split at h <;> first | cases h; done | skip
    simp only [Bool.and_eq_true, decide_eq_true_eq] at h
    obtain ⟨⟨⟨⟨⟨⟨rfl, h2⟩, h3⟩, h4⟩, h4'⟩, h5⟩, h6⟩ := h
    simp only [evit]
    exact sx_rng2 (gl_ok ok h2).1 (ok.mod.nob _ h3) (star_cons h4) (star_cons h4') (by rw [star_cons h4, star_cons h4']; rfl) (star_cons h4') (sd_f (mE_ok a false _ ok h5)) (sd_f (mE_ok b false _ ok h6))
  | .rng3 a b c, tg, x, X, S, C, ok, h => by
    simp only [mIT] at h
    split at h <;> first | cases h; done | skip
    simp only [Bool.and_eq_true, decide_eq_true_eq] at h
    obtain ⟨⟨⟨⟨⟨⟨⟨⟨rfl, h2⟩, h3⟩, h4⟩, h4'⟩, h4''⟩, h5⟩, h6⟩, h7⟩ := h
    simp only [evit]
    exact sx_rng3 (gl_ok ok h2).1 (ok.mod.nob _ h3) (star_cons h4) (star_cons h4') (star_cons h4'') (star_plain (by simp [h4', h4''])) (sd_f (mE_ok a false _ ok h5)) (sd_f (mE_ok b false _ ok h6)) (sd_f (mE_ok c false _ ok h7))
  | .enum a, tg, x, X, S, C, ok, h => by
    simp only [mIT] at h
    split at h <;> first | cases h; done | skip
    split at h <;> first | cases h; done | skip
    simp only [Bool.and_eq_true, decide_eq_true_eq] at h
    obtain ⟨⟨⟨⟨rfl, h2⟩, h3⟩, h4⟩, h5⟩ := h
    simp only [evit]
    exact sx_enum (gl_ok ok h2).1 (ok.mod.nob _ h3) (star_cons h4) (star_cons h4) (sd_f (mE_ok a false _ ok h5))
  | .zip a b, tg, x, X, S, C, ok, h => by
    simp only [mIT] at h
    split at h <;> first | cases h; done | skip
    split at h <;> first | cases h; done | skip
    simp only [Bool.and_eq_true, decide_eq_true_eq] at h
    obtain ⟨⟨⟨⟨⟨⟨rfl, h2⟩, h3⟩, h4⟩, h4'⟩, h5⟩, h6⟩ := h
    simp only [evit]
    exact sx_zip (gl_ok ok h2).1 (ok.mod.nob _ h3) (star_cons h4) (star_cons h4') (star_plain (by simp [h4'])) (sd_f (mE_ok a false _ ok h5)) (sd_f (mE_ok b false _ ok h6))
end
end
end MP

/-! Statements: the look, and that it tells the truth. -/
namespace MP
open PySem PySem.Spec PyProof.Rows L2 LamX
def notComp : Expr → Bool
  | .ListComp .. => false
  | .SetComp .. => false
  | .DictComp .. => false
  | _ => true
def notTup : Expr → Bool
  | .Tuple .. => false
  | _ => true
section
variable {env : PySem.Env}
theorem sw_expr {x : Expr} {l : Nat} (h : notComp x = true) : swapsWith x none l env = pure false := by
  cases x <;> first | rfl | cases h
theorem sw_name {x : Expr} {y : Str} {p : Pos} {l : Nat} (h : notComp x = true) : swapsWith x (some (.Name y p)) l env = pure false := by
  cases x <;> first | rfl | cases h
theorem sw_lc {elt : Expr} {gs : List Comprehension} {scope : Scope} {pos py : Pos} {y : Str} {l : Nat} (h : (py.line == pos.line && !(scope.names.any fun (n, k) => n == y && (k == .local || k == .cell))) = false ∨ env.scope.names.lookup y ≠ some .local) :
    swapsWith (.ListComp elt gs scope pos) (some (.Name y py)) l env = pure false := by
  have e : swapsWith (.ListComp elt gs scope pos) (some (.Name y py)) l env = pure (env.blockKind == .function && env.kindOf y == some .local && py.line == pos.line && !(scope.names.any fun (n, k) => n == y && (k == .local || k == .cell))) := rfl
  rw [e]
  congr 1
  rcases h with h | h
  · rw [Bool.and_assoc, Bool.and_assoc, h, Bool.and_false, Bool.and_false]
  · have : (env.kindOf y == some NameKind.local) = false := by
      rw [Bool.eq_false_iff]
      intro z
      exact h (by have z : (env.scope.names.lookup y == some NameKind.local) = true := z; simpa using z)
    rw [this]
    simp
theorem sw_sole {t x : Expr} {l : Nat} (h : ∀ y p, t ≠ .Name y p) : swapsWithSole [t] x l env = pure false := by
  show swapsWith x (some t) l env = pure false
  cases x <;> first | rfl | (cases t <;> first | rfl | exact absurd rfl (h _ _))
theorem as_sub {o i : Expr} {tpos : Pos} (h : plainI i = true) : ∀ v, assign (.Subscript o i tpos) env v = (do
      let ov ← holding [v] (eval o env)
      let iv ← holding [v, ov] (eval i env)
      standAt tpos
      holding [v, ov, iv] (setItem ov iv v)
      release [v, ov, iv] []) := by
  intro v
  cases i <;> first | rfl | cases h
theorem ss_sub {o i : Expr} {p : Pos} {x : Expr} : swappedStores [.Subscript o i p] x env = pure none := by
  cases x <;> rfl
theorem ss_tup {ts : List Expr} {k : Nat} {p : Pos} {x : Expr} (h : notTup x = true) : swappedStores [.Tuple ts k p] x env = pure none := by
  cases x <;> first | rfl | cases h
theorem ss_long {ts vs : List Expr} {k k2 : Nat} {p p2 : Pos} (h : (!(ts.length == 2 || ts.length == 3) || vs.length != ts.length) = true) : swappedStores [.Tuple ts k p] (.Tuple vs k2 p2) env = pure none := by
  unfold swappedStores
  dsimp only
  rw [h]
  rfl
theorem ss_cell {ts vs : List Expr} {k k2 : Nat} {p p2 : Pos} (h : ∃ t ∈ ts, ∀ y q, t = .Name y q → env.scope.names.lookup y ≠ some .local) : swappedStores [.Tuple ts k p] (.Tuple vs k2 p2) env = pure none := by
  unfold swappedStores
  dsimp only
  split
  · rfl
  · split
    · rfl
    · obtain ⟨t, ht, hn⟩ := h
      have lt : (ts.filterMap fun
          | .Name id pos => if env.kindOf id == some .local && pos.line == (ts.head?.map (·.pos.line)).getD 0 then some id else none
          | _ => none).length < ts.length := by
        rw [List.length_filterMap_lt_length_iff_exists]
        refine ⟨t, ht, ?_⟩
        cases t <;> first | rfl | skip
        rename_i y q
        dsimp only
        have : (env.kindOf y == some NameKind.local) = false := by
          rw [Bool.eq_false_iff]
          intro z
          exact hn y q rfl (by have z : (env.scope.names.lookup y == some NameKind.local) = true := z; simpa using z)
        rw [this]
        rfl
      rw [if_pos (by
        rw [Bool.or_eq_true]
        left
        rw [bne_iff_ne]
        exact Nat.ne_of_lt lt)]
theorem ss_par {x y : Str} {px py pt pt2 : Pos} {kt k2 : Nat} {a b : Expr} (hk : env.scope.kind = .function) (hx : env.scope.names.lookup x = some .local) (hy : env.scope.names.lookup y = some .local) (hxy : x ≠ y) (hl : (py.line == px.line) = true)
    (hs : noStar a = true ∧ noStar b = true) (hf : [a, b].all (foldedForSure 8) = false) (hc : [a, b].all (constantsAlone 8) = false) :
    swappedStores [.Tuple [.Name x px, .Name y py] kt pt] (.Tuple [a, b] k2 pt2) env = pure (some [x, y]) := by
  have hb : (env.blockKind != .function) = false := by
    unfold Env.blockKind
    rw [hk]
    rfl
  have hx' : (env.kindOf x == some NameKind.local) = true := by
    show (env.scope.names.lookup x == some NameKind.local) = true
    rw [hx]
    rfl
  have hy' : (env.kindOf y == some NameKind.local) = true := by
    show (env.scope.names.lookup y == some NameKind.local) = true
    rw [hy]
    rfl
  have hd : ([x, y].eraseDups.length != [x, y].length) = false := by
    have : (x == y) = false := by simpa using hxy
    simp [List.eraseDups_cons, hxy, Ne.symm hxy]
  unfold swappedStores
  dsimp only [List.length]
  rw [hb]
  rw [if_neg (by decide)]
  rw [if_neg]
  · simp only [List.filterMap_cons, List.filterMap_nil, List.head?_cons, Option.map_some, Option.getD_some, Expr.pos, hx', hy', hl, beq_self_eq_true, Bool.and_self, if_true]
    rw [hd]
    rw [if_neg (by simp), hf, if_neg Bool.false_ne_true, hc, if_neg Bool.false_ne_true]
  · obtain ⟨h1, h2⟩ := hs
    cases a <;> cases b <;> first | exact Bool.false_ne_true | cases h1; done | cases h2
end
def SI.suite (S : SI) : SI := ⟨S.N, S.sc, false, false, false, S.fn⟩
def SI.tr (S : SI) : SI := ⟨S.N, S.sc, S.calm, S.lam, false, S.fn⟩
def isAop (op : BOp) : Operator → Bool := fun o => match op, o with
  | .add, .Add => true
  | .sub, .Sub => true
  | _, _ => false
theorem isAop_eq {op : BOp} {o : Operator} (h : isAop op o = true) : aopOf op = some o := by
  cases op <;> cases o <;> first | rfl | cases h
/-- [..] whose store is the comprehension's own -/
def swB (S : SI) (y : Str) (py : Pos) (scope : Scope) (pos : Pos) : Bool := decide (S.sc.names.lookup y = some .local) && (py.line == pos.line) && !(scope.names.any fun (n, k) => n == y && (k == .local || k == .cell))
def compB (M : MD) (S : SI) (elt : IE) (tg : Tg) (own : List Nat) (it : IT) (cond : IO) (xe xt xi : Expr) (ifs : List Expr) (scope : Scope) : Bool :=
  S.calm && blkC S.N S.sc scope (ownOf S own) && ((tgSlots tg).all fun i => decide (i ∈ own)) && plainF xi && mIT M S it xt xi && tgB (S.blk scope) tg xt && mE M (S.blk scope) elt false xe && mC M (S.blk scope) cond ifs
def asgB (M : MD) (S : SI) (i : Nat) (e : IE) (y : Str) (py : Pos) (x : Expr) : Bool := locB S i y && (match x with
  | .ListComp xe gs scope pos => if swB S y py scope pos then
      (match e with
      | .comp _ elt tg own it cond => match gs with
        | [⟨xt, xi, ifs, 0⟩] => compB M S elt tg own it cond xe xt xi ifs scope
        | _ => false
      | _ => false)
    else mE M S e false x
  | x => notComp x && mE M S e false x)
mutual
def mS (M : MD) (S : SI) : IS → Stmt → Bool
  | .expr e, st => match st with | .Expr x _ => notComp x && mE M S e false x | _ => false
  | .asg i e, st => match st with | .Assign [.Name y py] x _ => asgB M S i e y py x | _ => false
  | .asgt is e, st => match st with
    | .Assign [.Tuple ts k p] x _ => S.calm && tgB S (.many is) (.Tuple ts k p) && mE M S e false x && (match x with
      | .Tuple vs _ _ => (!(ts.length == 2 || ts.length == 3) || vs.length != ts.length) || ts.any fun t => match t with | .Name y _ => !decide (S.sc.names.lookup y = some .local) | _ => true
      | _ => true)
    | _ => false
  | .par i j a b, st => match st with
    | .Assign [.Tuple [.Name x px, .Name y py] _ _] (.Tuple [xa, xb] _ _) _ => S.calm && decide (S.N[i]? = some x) && decide (S.N[j]? = some y) && decide (i ≠ j) && decide (x ≠ y) && decide (S.sc.names.lookup x = some .local) && decide (S.sc.names.lookup y = some .local) && (py.line == px.line)
      && noStar xa && noStar xb && !([xa, xb].all (foldedForSure 8)) && !([xa, xb].all (constantsAlone 8)) && mE M S a false xa && mE M S b false xb
    | _ => false
  | .asgi o i e, st => match st with | .Assign [.Subscript xo xi _] x _ => plainI xi && mE M S e false x && mE M S o false xo && mE M S i false xi | _ => false
  | .aug i op e, st => match st with | .AugAssign (.Name y _) o x _ => isAop op o && locB S i y && mE M S e false x | _ => false
  | .ife c a b, st => match st with | .If xc xa xb _ => mE M S c true xc && mSs M S a xa && mSs M S b xb | _ => false
  | .for tg it b, st => match st with | .For xt xi xb [] _ => S.calm && tgB S tg xt && plainF xi && mIT M S it xt xi && mSs M S b xb | _ => false
  | .whl c b, st => match st with | .While xc xb [] _ => mE M S c true xc && mSs M S b xb | _ => false
  | .ret e, st => match st with | .Return (some x) _ => mE M S e false x | _ => false
  | .ret0, st => match st with | .Return none _ => true | _ => false
  | .brk, st => match st with | .Break _ => true | _ => false
  | .cnt, st => match st with | .Continue _ => true | _ => false
  | .pass, st => match st with | .Pass _ => true | .Expr (.Constant (.str _) _ _) _ => true | _ => false
  | .raise c es, st => match es with
    | .nil => match st with | .Raise (some (.Call (.Name y _) [] [] _)) none _ => S.calm && decide (c = y) && glB S y && (M.T.sub c c).isSome | _ => false
    | _ => false
  | .try1 b c i h, st => match st with
    | .Try xb [.ExceptHandler (some (.Name y _)) (some n) (h0 :: hs) _] [] [] _ => S.top && decide (c = y) && glB S y && (M.T.sub c c).isSome && decide (S.N[i]? = some n) && decide (S.sc.names.lookup n = some .local) && mSs M S.tr b xb && mSs M S.suite h (h0 :: hs)
    | _ => false
def mSs (M : MD) (S : SI) : ISs → List Stmt → Bool
  | .nil, xs => xs.isEmpty
  | .cons s ss, xs => match xs with | x :: r => mS M S s x && mSs M S ss r | [] => false
end
section
variable {flds : Fl} {M : MD}
theorem SOk.tr {X : Cx} {S : SI} {C : Calls} (ok : SOk X flds M S C) (pn : List (Addr × Obj)) (xe : Value → Shared → Prop) : SOk (X.tr pn xe) flds M S.tr C where
  mod := ok.mod
  N := ok.N
  nd := ok.nd
  sc := ok.sc
  kind := ok.kind
  calm := ok.calm
  fn := ok.fn
  un := ok.un
  calls := ok.calls
  lamT := ok.lamT
  top := fun h => by cases h
  cg := ok.cg
  cs := ok.cs
theorem SOk.suite {X : Cx} {S : SI} {C : Calls} (ok : SOk X flds M S C) (a : Addr) (pn : List (Addr × Obj)) : SOk (X.suite a pn) flds M S.suite C where
  mod := ok.mod
  N := ok.N
  nd := ok.nd
  sc := ok.sc
  kind := ok.kind
  calm := fun h => by cases h
  fn := ok.fn
  un := ok.un
  calls := fun h => by cases h
  lamT := fun h => by cases h
  top := fun h => by cases h
  cg := ok.cg
  cs := ok.cs
theorem asg_ok {X : Cx} {S : SI} {C : Calls} (ok : SOk X flds M S C) {i : Nat} {e : IE} {y : Str} {py : Pos} {x : Expr} {pos : Pos} (h : asgB M S i e y py x = true) : PSv X flds (.Assign [.Name y py] x pos) fun env s => (ev C e env s).sr env fun x s => .nx (env.set i x) s := by
  unfold asgB at h
  rw [Bool.and_eq_true] at h
  obtain ⟨h1, h2⟩ := h
  obtain ⟨l1, l2, l3⟩ := loc_ok ok h1
  have hN : X.N.Nodup := by rw [ok.N]; exact ok.nd
  split at h2
  · rename_i xe gs scope cpos
    split at h2
    · rename_i hsw
      split at h2 <;> first | cases h2; done | skip
      rename_i bx elt tg own it cond
      split at h2 <;> first | cases h2; done | skip
      rename_i xt xi ifs
      unfold compB at h2
      simp only [Bool.and_eq_true, List.all_eq_true, decide_eq_true_eq] at h2
      obtain ⟨⟨⟨⟨⟨⟨⟨q1, q2⟩, q3⟩, q4⟩, q5⟩, q6⟩, q7⟩, q8⟩ := h2
      have bo := blk_own ok q2
      unfold swB at hsw
      simp only [Bool.and_eq_true, Bool.not_eq_true', decide_eq_true_eq] at hsw
      obtain ⟨⟨w1, w2⟩, w3⟩ := hsw
      have hyl : X.env.scope.names.lookup y = some .local := by rw [ok.sc]; exact w1
      have key := st_setLc (bx := bx) (i := i) (y := y) (py := py) (elt := xe) (tg := xt) (iter := xi) (ifs := ifs) (scope := scope) (pos := cpos) (spos := pos) (ok.calm q1) hN l1 hyl (sw_true (by rw [ok.sc]; exact ok.kind) hyl w2 w3) (tgi := tg) (own := ownOf S own) (by rw [own_snd]; exact q3) bo (folded_plain q4) (mIT_ok it _ _ ok q5)
        (fun s H Cc cl fp => tg_pg (SOk.blk ok bo.kind s H Cc cl fp) (ok.calm q1) q6) (fun s H Cc cl fp => mC_ok cond _ (SOk.blk ok bo.kind s H Cc cl fp) q8) (fun s H Cc cl fp => sd_f (mE_ok elt false _ (SOk.blk ok bo.kind s H Cc cl fp) q7))
      rw [own_snd] at key
      have e : (fun env s => (ev C (.comp bx elt tg own it cond) env s).sr env fun x s => SR.nx (env.set i x) s) = fun env s => ((evit C it env s).bind fun w s =>
        (compLoop (compF tg own (cndS C cond) (fun env s => ev C elt env s) env) w.live w.items [] s).bind fun xs s => mkL bx (.lst xs) s).sr env fun x s => SR.nx (env.set i x) s := by
        funext env s
        cases cond <;> simp only [ev, cndS]
      rw [e]
      exact key
    · rename_i hsw
      refine st_set hN l1 l2 (sw_lc ?_) l3 (sd_f (mE_ok e false _ ok h2))
      unfold swB at hsw
      by_cases hl : S.sc.names.lookup y = some .local
      · left
        rw [decide_eq_true hl, Bool.true_and] at hsw
        exact Bool.eq_false_iff.mpr hsw
      · right
        rw [ok.sc]
        exact hl
  · simp only [Bool.and_eq_true] at h2
    exact st_set hN l1 l2 (sw_name h2.1) l3 (sd_f (mE_ok e false _ ok h2.2))
mutual
theorem mS_ok : ∀ (st : IS) (x : Stmt) {X : Cx} {S : SI} {C : Calls}, SOk X flds M S C → mS M S st x = true → PSv X flds x (fun env s => ex C st env s)
  | .expr e, x, X, S, C, ok, h => by
    simp only [mS] at h
    split at h <;> first | cases h; done | skip
    simp only [Bool.and_eq_true] at h
    simp only [ex]
    exact st_expr (sw_expr h.1) (sd_f (mE_ok e false _ ok h.2))
  | .asg i e, x, X, S, C, ok, h => by
    simp only [mS] at h
    split at h <;> first | cases h; done | skip
    simp only [ex]
    exact asg_ok ok h
  | .asgt is e, x, X, S, C, ok, h => by
    simp only [mS] at h
    split at h <;> first | cases h; done | skip
    rename_i ts k p x pos
    simp only [Bool.and_eq_true] at h
    obtain ⟨⟨⟨h1, h2⟩, h3⟩, h4⟩ := h
    simp only [ex]
    refine st_asgt (tg_pg ok (ok.calm h1) h2) (sw_sole (by intro y p z; cases z)) ?_ rfl (sd_f (mE_ok e false _ ok h3))
    split at h4
    · rw [Bool.or_eq_true] at h4
      rcases h4 with h4 | h4
      · exact ss_long h4
      · refine ss_cell ?_
        obtain ⟨t, ht, q⟩ := List.any_eq_true.mp h4
        refine ⟨t, ht, fun y pq e => ?_⟩
        subst e
        rw [ok.sc]
        simpa using q
    · rename_i nt
      exact ss_tup (by cases x <;> first | rfl | exact absurd rfl (nt _ _ _))
  | .par i j a b, x, X, S, C, ok, h => by
    simp only [mS] at h
    split at h <;> first | cases h; done | skip
    simp only [Bool.and_eq_true, Bool.not_eq_true', decide_eq_true_eq] at h
    obtain ⟨⟨⟨⟨⟨⟨⟨⟨⟨⟨⟨⟨⟨h1, h2⟩, h3⟩, h4⟩, h5⟩, h6⟩, h7⟩, h8⟩, h9⟩, h10⟩, h11⟩, h12⟩, h13⟩, h14⟩ := h
    simp only [ex]
    exact st_par (ok.calm h1) (by rw [ok.N]; exact ok.nd) (by rw [ok.N]; exact h2) (by rw [ok.N]; exact h3) h4 (by rw [ok.sc]; exact h6) (by rw [ok.sc]; exact h7)
      (ss_par (by rw [ok.sc]; exact ok.kind) (by rw [ok.sc]; exact h6) (by rw [ok.sc]; exact h7) h5 h8 ⟨h9, h10⟩ h11 h12) (sw_sole (by intro y p z; cases z)) (star_cons h9) (star_cons h10) (sd_f (mE_ok a false _ ok h13)) (sd_f (mE_ok b false _ ok h14))
  | .asgi o i e, x, X, S, C, ok, h => by
    simp only [mS] at h
    split at h <;> first | cases h; done | skip
    simp only [Bool.and_eq_true] at h
    have hu := ok.un
    simp only [ex]
    exact st_asgi (by omega) (sw_sole (by intro y p z; cases z)) ss_sub rfl (as_sub h.1.1.1) (sd_f (mE_ok e false _ ok h.1.1.2)) (sd_f (mE_ok o false _ ok h.1.2)) (sd_f (mE_ok i false _ ok h.2))
  | .aug i op e, x, X, S, C, ok, h => by
    simp only [mS] at h
    split at h <;> first | cases h; done | skip
    simp only [Bool.and_eq_true] at h
    obtain ⟨l1, l2, l3⟩ := loc_ok ok h.1.2
    simp only [ex]
    exact st_aug (isAop_eq h.1.1) (by rw [ok.N]; exact ok.nd) l1 l2 l3 (sd_f (mE_ok e false _ ok h.2))
  | .ife c a b, x, X, S, C, ok, h => by
    simp only [mS] at h
    split at h <;> first | cases h; done | skip
    simp only [Bool.and_eq_true] at h
    simp only [ex]
    exact st_ife (sd_t (mE_ok c true _ ok h.1.1)) (mSs_ok a _ ok h.1.2) (mSs_ok b _ ok h.2)
  | .for tg it b, x, X, S, C, ok, h => by
    simp only [mS] at h
    split at h <;> first | cases h; done | skip
    simp only [Bool.and_eq_true] at h
    obtain ⟨⟨⟨⟨h1, h2⟩, h3⟩, h4⟩, h5⟩ := h
    simp only [ex]
    exact st_for (ok.calm h1) (tg_pg ok (ok.calm h1) h2) (folded_plain h3) (mIT_ok it _ _ ok h4) (mSs_ok b _ ok h5)
  | .whl c b, x, X, S, C, ok, h => by
    simp only [mS] at h
    split at h <;> first | cases h; done | skip
    simp only [Bool.and_eq_true] at h
    simp only [ex]
    exact st_whl (sd_t (mE_ok c true _ ok h.1)) (mSs_ok b _ ok h.2)
  | .ret e, x, X, S, C, ok, h => by
    simp only [mS] at h
    split at h <;> first | cases h; done | skip
    simp only [ex]
    exact st_ret (sd_f (mE_ok e false _ ok h))
  | .ret0, x, X, S, C, ok, h => by
    simp only [mS] at h
    split at h <;> first | cases h; done | skip
    simp only [ex]
    exact st_ret0
  | .brk, x, X, S, C, ok, h => by
    simp only [mS] at h
    split at h <;> first | cases h; done | skip
    simp only [ex]
    exact st_brk
  | .cnt, x, X, S, C, ok, h => by
    simp only [mS] at h
    split at h <;> first | cases h; done | skip
    simp only [ex]
    exact st_cnt
  | .pass, x, X, S, C, ok, h => by
    simp only [mS] at h
    simp only [ex]
    split at h <;> first | cases h; done | skip
    · exact st_pass
    · exact st_doc
  | .raise c .nil, x, X, S, C, ok, h => by
    simp only [mS] at h
    split at h <;> first | cases h; done | skip
    simp only [Bool.and_eq_true, decide_eq_true_eq] at h
    obtain ⟨⟨⟨h1, rfl⟩, h3⟩, h4⟩ := h
    obtain ⟨g1, g2, g3⟩ := gl_ok ok h3
    obtain ⟨b, hb⟩ := Option.isSome_iff_exists.mp h4
    obtain ⟨CC, q1, q2, q3⟩ := ok.mod.err _ _ hb
    have e : (fun env s => ex C (.raise c .nil) env s) = fun env s => SR.exc (.exc c []) env s := by
      funext env s
      simp only [ex, evs, Res.sr_ok]
      split <;> rfl
    rw [e]
    exact st_raise0 (ok.calm h1) q2 q1 q3 g1 g2
  | .raise c (.cons _ _), x, X, S, C, ok, h => by simp [mS] at h
  | .try1 b c i hd, x, X, S, C, ok, h => by
    simp only [mS] at h
    split at h <;> first | cases h; done | skip
    simp only [Bool.and_eq_true, decide_eq_true_eq] at h
    obtain ⟨⟨⟨⟨⟨⟨⟨h1, rfl⟩, h3⟩, h4⟩, h5⟩, h6⟩, h7⟩, h8⟩ := h
    obtain ⟨g1, g2, g3⟩ := gl_ok ok h3
    obtain ⟨b', hb⟩ := Option.isSome_iff_exists.mp h4
    obtain ⟨CC, q1, q2, q3⟩ := ok.mod.err _ _ hb
    obtain ⟨t1, t2⟩ := ok.top h1
    simp only [ex]
    rw [ok.cs]
    exact st_try ok.mod.xf t1 t2 (by rw [ok.N]; exact ok.nd) (by rw [ok.N]; exact h5) (by show X.env.scope.names.lookup _ = _; rw [ok.sc]; exact h6) g1 g2 q1 (fun pn xe => mSs_ok b _ (SOk.tr ok pn xe) h7) (fun a pn => mSs_ok hd _ (SOk.suite ok a pn) h8)
theorem mSs_ok : ∀ (ss : ISs) (xs : List Stmt) {X : Cx} {S : SI} {C : Calls}, SOk X flds M S C → mSs M S ss xs = true → PSsv X flds xs (fun env s => exs C ss env s)
  | .nil, [], X, S, C, ok, h => by
    simp only [exs]
    exact st_nil
  | .nil, _ :: _, X, S, C, ok, h => by simp [mSs] at h
  | .cons s ss, [], X, S, C, ok, h => by simp [mSs] at h
  | .cons s ss, x :: xs, X, S, C, ok, h => by
    simp only [mSs, Bool.and_eq_true] at h
    simp only [exs]
    exact st_cons (mS_ok s _ ok h.1) (mSs_ok ss _ ok h.2)
end
end
end MP

/-! A module's defs keep what the evaluator says. -/
namespace MP
open PySem PySem.Spec PyProof.Rows L2 LamX
/-- a def of the text: its statement, its parameters, its slots' names, its form; may it make lambdas -/
structure DI where
  name : Str
  st : Stmt
  ps : List Str
  N : List Str
  body : ISs
  lam : Bool
def DI.fn (d : DI) : FnI := ⟨d.ps.length, d.N.length, d.body⟩
def DI.defD (d : DI) : He.DefD := ⟨(d.name, none), d.name, d.name, defArgs d.st, defBody d.st, defScope d.st, [], []⟩
def scB (N P : List Str) (sc : Scope) : Bool := decide (sc.kind = .function) && !sc.isCoroutine && !sc.isGenerator && decide N.Nodup && decide (N.take P.length = P) && (P.all fun x => decide (sc.names.lookup x = some .local) || decide (sc.names.lookup x = some .cell)) && (sc.names.all fun y => !decide (y.2 = .free))
theorem sc_ok {N P : List Str} {sc : Scope} (h : scB N P sc = true) : FnScope N P sc := by
  unfold scB at h
  simp only [Bool.and_eq_true, Bool.or_eq_true, Bool.not_eq_true', decide_eq_true_eq, decide_eq_false_iff_not, List.all_eq_true] at h
  obtain ⟨⟨⟨⟨⟨⟨h1, h2⟩, h3⟩, h4⟩, h5⟩, h6⟩, h7⟩ := h
  exact ⟨h1, h2, h3, h4, h5, h6, h7⟩
def DI.si (d : DI) : SI := ⟨d.N, defScope d.st, true, d.lam, true, fun _ => true⟩
def DI.ok (M : MD) (d : DI) : Bool := scB d.N d.ps (defScope d.st) && mSs M d.si d.body (defBody d.st)
/-- what is told of the module's defs -/
structure DOk (K : PySem.W.Frag) (mg : Str → Option Value) (base : Heap) (flds : Fl) (M : MD) (d : DI) : Prop where
  fn : ∃ f fd, mg d.name = some (.ref f) ∧ Fun K d.name d.name d.st f fd ∧ L2.Binds K fd d.ps [] ∧ (∀ na ks o, (d.name, na, ks, o) ∈ M.kws → OBinds fd d.ps ks na o) ∧
    (d.lam = true → ∃ c P, fd.code = .ref c ∧ TabB base mg c P ∧ (P, (d.name ++ ".<locals>.") ++ "<lambda>") ∈ flds.T ∧ ∀ p ∈ flds.T, p.1 = P → p.2 = (d.name ++ ".<locals>.") ++ "<lambda>")
theorem glob_of (T : Tx) : ∀ k, (callsOf T k).glob = T.glob
  | 0 => rfl
  | _ + 1 => rfl
theorem sub_of (T : Tx) : ∀ k, (callsOf T k).sub = T.sub
  | 0 => rfl
  | _ + 1 => rfl
theorem callF_ar {T : Tx} {f : Str} {d : FnI} (hf : T.fn f = some d) {xs : List PV} {s : Store} : ∀ k, callF T k f xs s ≠ .stk → xs.length = d.params
  | 0, h => absurd rfl h
  | k + 1, h => by
    rw [callF_succ] at h
    unfold call1 at h
    rw [hf] at h
    dsimp only at h
    split at h
    · rename_i e
      exact e
    · exact absurd rfl h
theorem all_ok {P : Program} {w : World} {K : PySem.W.Frag} {mg : Str → Option Value} {base : Heap} {flds : Fl} {M : MD} {ds : List DI} (mo : MOk K mg flds M) (hT : ∀ d ∈ ds, M.T.fn d.name = some d.fn) (hok : ∀ d ∈ ds, d.ok M = true) (hd : ∀ d ∈ ds, DOk K mg base flds M d)
    (hm : ∀ f ps, (f, ps) ∈ M.fns → ∃ d ∈ ds, d.name = f ∧ d.ps = ps) : ∀ k, COk P w K mg base flds M (2 * k + 1) (callsOf M.T k) ∧ COk P w K mg base flds M (2 * k) (callsOf M.T k).down ∧ ∀ d ∈ ds, ∀ f fd, Fun K d.name d.name d.st f fd → mg d.name = some (.ref f) → (d.lam = true → ∃ c P, fd.code = .ref c ∧ TabB base mg c P ∧ (P, (d.name ++ ".<locals>.") ++ "<lambda>") ∈ flds.T ∧ ∀ p ∈ flds.T, p.1 = P → p.2 = (d.name ++ ".<locals>.") ++ "<lambda>") →
        FnOkG P w K mg base (2 * k + 1) f fd d.ps (spF K mg flds (callF M.T k) d.ps.length d.name) := by
  have dead : ∀ {f : Addr} {fd : FuncData} {ps : List Str} {r : Nat} {x : Str}, FnOkG P w K mg base r f fd ps (spF K mg flds (fun _ _ _ => .stk) ps.length x) := fun {f fd ps r x} => ⟨fun h => h.1, fun _ _ _ _ h => by
    obtain ⟨_, g, s0, pvs, _, _, hg⟩ := h
    exact hg.elim⟩
  have ar0 : ∀ f ps, (f, ps) ∈ M.fns → ∀ (xs : List PV) (s : Store), (Res.stk : Res PV) ≠ .stk → xs.length = ps.length := fun _ _ _ _ _ h => absurd rfl h
  have ark : ∀ k f ps, (f, ps) ∈ M.fns → ∀ xs s, callF M.T k f xs s ≠ .stk → xs.length = ps.length := fun k f ps hf xs s h => by
    obtain ⟨d, hdm, rfl, rfl⟩ := hm f ps hf
    exact callF_ar (hT d hdm) k h
  have mk : ∀ {r : Nat} {C : Calls}, C.glob = M.T.glob → C.sub = M.T.sub → (∀ f ps, (f, ps) ∈ M.fns → ∀ xs s, C.fn f xs s ≠ .stk → xs.length = ps.length) → (∀ d ∈ ds, ∀ f fd, Fun K d.name d.name d.st f fd → mg d.name = some (.ref f) → (d.lam = true → ∃ c P, fd.code = .ref c ∧ TabB base mg c P ∧ (P, (d.name ++ ".<locals>.") ++ "<lambda>") ∈ flds.T ∧ ∀ p ∈ flds.T, p.1 = P → p.2 = (d.name ++ ".<locals>.") ++ "<lambda>") →
      FnOkG P w K mg base r f fd d.ps (spF K mg flds C.fn d.ps.length d.name)) → COk P w K mg base flds M r C := fun {r C} e1 e2 e3 h => ⟨fun f ps hf => by
    obtain ⟨d, hdm, rfl, rfl⟩ := hm f ps hf
    obtain ⟨fa, fd, m1, m2, m3, m4, m5⟩ := (hd d hdm).fn
    exact ⟨fa, fd, m1, m2.kp, m3, m4, h d hdm fa fd m2 m1 m5⟩, e3, e1, e2⟩
  intro k
  induction k with
  | zero => exact ⟨mk rfl rfl (fun f ps hf xs s h => absurd rfl h) fun d hdm f fd _ _ _ => dead, mk rfl rfl (fun f ps hf xs s h => absurd rfl h) fun d hdm f fd _ _ _ => dead, fun d hdm f fd _ _ _ => dead⟩
  | succ k ih =>
    obtain ⟨ih1, ih2, _⟩ := ih
    have step : ∀ d ∈ ds, ∀ f fd, Fun K d.name d.name d.st f fd → mg d.name = some (.ref f) → (d.lam = true → ∃ c P, fd.code = .ref c ∧ TabB base mg c P ∧ (P, (d.name ++ ".<locals>.") ++ "<lambda>") ∈ flds.T ∧ ∀ p ∈ flds.T, p.1 = P → p.2 = (d.name ++ ".<locals>.") ++ "<lambda>") →
        FnOkG P w K mg base (2 * k + 2 + 1) f fd d.ps (spF K mg flds (callF M.T (k + 1)) d.ps.length d.name) := fun d hdm f fd F _ hl => by
      have hk := hok d hdm
      unfold DI.ok at hk
      rw [Bool.and_eq_true] at hk
      have S := sc_ok hk.1
      refine fn_ok (T := M.T) (d := d.fn) F S (hT d hdm) rfl rfl fun A outer s H E hr => ?_
      have ok : SOk (cxOf (L2.CX P w) P w K mg base d.N d.name (defScope d.st) f fd.code A outer s H E) flds M d.si (callsOf M.T k) := {
        mod := mo
        N := rfl
        nd := S.nd
        sc := rfl
        kind := S.kind
        calm := fun _ => rfl
        fn := fun _ _ => rfl
        un := by
          have := hr.r.un
          show (A.deeper (envOfC d.name (defScope d.st) s.heap.objs.size f fd.code)).units + 65 < cLine
          omega
        calls := fun _ => ⟨2 * k + 2, hr, ⟨fun g ps hg => by
            obtain ⟨fa, fd', c1, c2, c3, c4, c5⟩ := ih1.fns g ps hg
            exact ⟨fa, fd', c1, c2, c3, c4, c5.mono (by omega)⟩, ih1.ar, ih1.glob, ih1.sub⟩, fun _ => ⟨2 * k, by omega, ih2⟩⟩
        lamT := hl
        top := fun _ => ⟨rfl, rfl⟩
        cg := glob_of _ _
        cs := sub_of _ _ }
      exact mSs_ok d.body _ ok hk.2
    exact ⟨mk rfl rfl (ark (k + 1)) step, ⟨fun g ps hg => by
      obtain ⟨fa, fd', c1, c2, c3, c4, c5⟩ := ih1.fns g ps hg
      exact ⟨fa, fd', c1, c2, c3, c4, c5.mono (by omega)⟩, ih1.ar, rfl, rfl⟩, step⟩
/-! ### what the head tells -/
def excB (K : PySem.W.Frag) (D : Addr) : Bool := decide (PySem.W.findIn K (.ref D) "__getattribute__" = some (some (.builtin "BaseException.__getattribute__"))) && decide (PySem.W.findIn K (.ref D) "__getattr__" = some none) && decide (PySem.W.subIn K (.ref D) (.type "BaseException") = some true) && PySem.W.hasDictIn K D
  && decide (PySem.W.findIn K (.ref D) "__class__" = some (some (.builtin "object.__class__"))) && decide (PySem.W.specialIn K (.builtin "object.__class__") "__get__" = some (some (.builtin "getset_descriptor.__get__"))) && decide (PySem.W.takesIn K (.builtin "object.__class__") = some true) && decide (PySem.W.mroIn K D (.type "object") = some true)
theorem excB_ok {K : PySem.W.Frag} {D : Addr} (h : excB K D = true) : ExcC K D := by
  unfold excB at h
  simp only [Bool.and_eq_true, decide_eq_true_eq] at h
  obtain ⟨⟨⟨⟨⟨⟨⟨h1, h2⟩, h3⟩, h4⟩, h5⟩, h6⟩, h7⟩, h8⟩ := h
  exact ⟨h1, h2, h3, h4, h5, h6, h7, h8⟩
abbrev SubT := List (Str × Str × Bool)
def subOf (l : SubT) (d c : Str) : Option Bool := (l.find? fun t => decide (t.1 = d) && decide (t.2.1 = c)).map (·.2.2)
def subB (K : PySem.W.Frag) (t : Str × Str × Bool) : Bool := excB K (He.ga K t.1) && decide (PySem.W.kitOne K (.ref (He.ga K t.1)) (.ref (He.ga K t.2.1)) = some t.2.2) && decide (PySem.W.exmOne K (.ref (He.ga K t.1)) (.ref (He.ga K t.2.1)) = some t.2.2)
  && (tys.all fun T => decide (PySem.W.kitOne K (.type T) (.ref (He.ga K t.2.1)) = some false))
theorem subOf_mem {l : SubT} {d c : Str} {b : Bool} (h : subOf l d c = some b) : (d, c, b) ∈ l := by
  unfold subOf at h
  obtain ⟨t, h1, h2⟩ := Option.map_eq_some_iff.mp h
  have h3 := List.find?_some h1
  have h4 := List.mem_of_find?_eq_some h1
  simp only [Bool.and_eq_true, decide_eq_true_eq] at h3
  obtain ⟨t1, t2, t3⟩ := t
  obtain ⟨rfl, rfl⟩ := h3
  have h2 : t3 = b := h2
  subst h2
  exact h4
/-- the tables of the defs that make lambdas lie apart -/
def tabsOf (K : PySem.W.Frag) (tf : List He.Defn) : List (Addr × Str) := tf.map fun p => ((He.cT K p).2, (p.1 ++ ".<locals>.") ++ "<lambda>")
def exB (sub : SubT) (tf : List He.Defn) (K : PySem.W.Frag) : Bool := (sub.all fun t => subB K t) && decide ((tf.map fun p => (He.cT K p).2).Nodup)
theorem nodup_inj {α β : Type} {f : α → β} : ∀ {l : List α}, (l.map f).Nodup → ∀ {a b : α}, a ∈ l → b ∈ l → f a = f b → a = b
  | [], _, a, b, h, _, _ => by cases h
  | x :: xs, nd, a, b, ha, hb, e => by
    rw [List.map_cons, List.nodup_cons] at nd
    rcases List.mem_cons.mp ha with rfl | ha'
    · rcases List.mem_cons.mp hb with rfl | hb'
      · rfl
      · exact absurd (List.mem_map.mpr ⟨b, hb', e.symm⟩) nd.1
    · rcases List.mem_cons.mp hb with rfl | hb'
      · exact absurd (List.mem_map.mpr ⟨a, ha', e⟩) nd.1
      · exact nodup_inj nd.2 ha' hb' e
theorem fun_of {K : PySem.W.Frag} {d : DI} {f : Addr} {fd : FuncData} (F : FunD K d.name d.name (defArgs d.st) (defBody d.st) (defScope d.st) [] [] f fd) : Fun K d.name d.name d.st f fd := by
  obtain ⟨oc, od, dV, kV, doc, pm, an, cdv, ct, osl, e, lk, hcd, hD, hK⟩ := F.ex
  rcases hD with ⟨_, rfl⟩ | ⟨e2, _⟩
  · exact ⟨⟨oc, od, kV, doc, pm, an, cdv, ct, osl, e, lk, hcd⟩, F.kp⟩
  · exact absurd rfl e2
end MP

/-! The law's call at the end of the head, where no repr is under way. -/
namespace MP
open PySem PySem.Spec PyProof.Rows L2 LamX
theorem cx_none0 {P : Program} {w : World} {outer : List PySem.Env} {H : Hp} {s : Shared} {e : Value} {s' : Shared} (z : L2.CX P w outer H s (fun _ _ _ => False) e s') : False := by
  obtain ⟨_, _, _, _, _, _, _, _, _, _, _, _, z⟩ := z
  exact z
section
variable {P : Program} {w : World} {K : PySem.W.Frag} {mg mb : Str → Option Value} {k : Nat} {fa a : Addr} {tabs : List (Addr × Addr)} {fd : FuncData} {x : Str} {sp : Sp} {st : Shared} {vs : List Value} {ns : List Int}
abbrev emptyTab : Obj := { cls := .none, data := .fields #[] }
abbrev scriptO (vs : List Value) : Obj := { cls := .type "list", data := .seq vs.toArray }
/-- what is told of the heap where the law is called -/
structure AtLaw (K : PySem.W.Frag) (mg mb : Str → Option Value) (tabs : List (Addr × Addr)) (a : Addr) (vs : List Value) (ns : List Int) (st : Shared) : Prop where
  kin : K.In st.heap
  glob : st.heap.Ns mainGlobals mg
  blt : st.heap.Ns builtinsNs mb
  boot : ∀ y : Str, y ≠ "__name__" → mb y = bootBuiltins y
  lim : st.heap.NoLimit
  gens : st.gens = #[]
  empty : ∀ p ∈ tabs, st.heap.get? p.2 = some emptyTab
  out : ∀ p ∈ tabs, K.lookup p.2 = none
  hd : ∀ p ∈ tabs, PySem.W.CodeHd st.heap p.1 p.2
  bm : ∃ (b : Addr) (o : Obj), mg "__builtins__" = some (.ref b) ∧ b ≠ builtinsNs ∧ st.heap.get? b = some o ∧ o.cls = .type "module" ∧ o.dict = some builtinsNs ∧ o.data = .plain
  script : st.heap.get? a = some (scriptO vs)
  nums : IntsAre vs ns
  short : ns.length ≤ sizeLine
/-- the things that may change or are held: the tables, the script -/
def track (K : PySem.W.Frag) (tabs : List (Addr × Addr)) (a : Addr) (vs : List Value) (ns : List Int) : Hp := fun b =>
  if b ∈ tabs.map Prod.snd then some (.tbl #[]) else if b = a ∧ (K.lookup a).isNone = true then some (.frz (scriptO vs) (.lst (ns.map V.int))) else none
variable (L : AtLaw K mg mb tabs a vs ns st)
include L
theorem AtLaw.tabAt {b : Addr} (h : b ∈ tabs.map Prod.snd) : st.heap.get? b = some emptyTab := by
  obtain ⟨p, hp, rfl⟩ := List.mem_map.mp h
  exact L.empty p hp
theorem AtLaw.aOut : a ∉ tabs.map Prod.snd := fun h => by
  have := (L.tabAt h).symm.trans L.script
  injection this with e
  injection e with e1 e2 e3
  cases e3
/-- the three kinds of places -/
theorem AtLaw.kinds (b : Addr) : (b ∈ tabs.map Prod.snd ∧ track K tabs a vs ns b = some (.tbl #[])) ∨ (b = a ∧ K.lookup a = none ∧ track K tabs a vs ns b = some (.frz (scriptO vs) (.lst (ns.map V.int)))) ∨ (b ∉ tabs.map Prod.snd ∧ track K tabs a vs ns b = none) := by
  unfold track
  by_cases h1 : b ∈ tabs.map Prod.snd
  · exact .inl ⟨h1, if_pos h1⟩
  · rw [if_neg h1]
    by_cases h2 : b = a ∧ (K.lookup a).isNone = true
    · exact .inr (.inl ⟨h2.1, Option.isNone_iff_eq_none.mp h2.2, if_pos h2⟩)
    · exact .inr (.inr ⟨h1, if_neg h2⟩)
theorem AtLaw.free {b : Addr} {o : Obj} (e : st.heap.get? b = some o) (h1 : o.data ≠ .fields #[]) (h2 : o.data ≠ .seq vs.toArray) : track K tabs a vs ns b = none := by
  rcases L.kinds b with ⟨h, _⟩ | ⟨h, _, _⟩ | ⟨_, h⟩
  · rw [L.tabAt h] at e
    cases e
    exact absurd rfl h1
  · rw [h, L.script] at e
    cases e
    exact absurd rfl h2
  · exact h
theorem AtLaw.ok : HOk P w (track K tabs a vs ns) st.heap := fun b o e => by
  rcases L.kinds b with ⟨h, q⟩ | ⟨h, _, q⟩ | ⟨_, q⟩
  · rw [q] at e
    cases e
    exact L.tabAt h
  · rw [q] at e
    cases e
    subst h
    exact ⟨L.script, by rw [List.length_map]; exact L.short, vs, _, vals_ints L.nums, L.script⟩
  · rw [q] at e
    cases e
theorem AtLaw.list : SqL K (track K tabs a vs ns) a (ns.map V.int) := by
  cases hk : K.lookup a with
  | none =>
    rcases L.kinds a with ⟨h, _⟩ | ⟨_, _, q⟩ | ⟨_, q⟩
    · exact absurd h L.aOut
    · exact .inl (.inr ⟨_, q⟩)
    · unfold track at q
      rw [if_neg L.aOut, if_pos ⟨rfl, by rw [hk]; rfl⟩] at q
      cases q
  | some o =>
    have e := L.kin a o hk
    rw [L.script] at e
    cases e
    exact .inr ⟨_, vs.toArray, _, hk, rfl, rfl, rfl, by rw [List.size_toArray, L.nums.length]; exact L.short, by simpa using vals_ints L.nums⟩
/-- the heap without them -/
abbrev under (K : PySem.W.Frag) (tabs : List (Addr × Addr)) (a : Addr) (vs : List Value) (ns : List Int) (st : Shared) : Heap := hidT st.heap (track K tabs a vs ns)
theorem AtLaw.spaces {b : Addr} {m : Str → Option Value} (h : st.heap.Ns b m) : (under K tabs a vs ns st).Ns b m := by
  obtain ⟨o, es, ep, e, d, r⟩ := h
  exact ⟨o, es, ep, hidT_get e (L.free e (by rw [d]; intro z; cases z) (by rw [d]; intro z; cases z)), d, r⟩
theorem AtLaw.kinU : K.In (under K tabs a vs ns st) := fun b o e => hidT_get (L.kin b o e) (by
  rcases L.kinds b with ⟨h, _⟩ | ⟨h, z, _⟩ | ⟨_, h⟩
  · obtain ⟨p, hp, rfl⟩ := List.mem_map.mp h
    rw [L.out p hp] at e
    cases e
  · rw [h, z] at e
    cases e
  · exact h)
theorem AtLaw.tb : ∀ p ∈ tabs, TabB (under K tabs a vs ns st) mg p.1 p.2 := fun p hp => by
  have hT := L.empty p hp
  constructor
  · obtain ⟨o, fs, f1, f2, f3, f4, f5, f6, f7, e, c1, c2, c3, more⟩ := L.hd p hp
    have n1 : o.data ≠ .fields #[] := by
      rw [c2]
      intro z
      cases z
      simp at c3
    exact ⟨o, fs, f1, f2, f3, f4, f5, f6, f7, hidT_get e (L.free e n1 (by rw [c2]; intro z; cases z)), c1, c2, c3, more⟩
  · obtain ⟨b, o, b1, b2, b3, b4, b5, b6⟩ := L.bm
    refine ⟨b, o, b1, b2, fun z => ?_, fun z => ?_, hidT_get b3 (L.free b3 (by rw [b6]; intro z; cases z) (by rw [b6]; intro z; cases z)), b4, b5, b6⟩
    · obtain ⟨o', es, ep, e, d, _⟩ := L.glob
      rw [z, e] at b3
      cases b3
      rw [d] at b6
      cases b6
    · rw [z, hT] at b3
      cases b3
      cases b6
  · intro z
    obtain ⟨o', es, ep, e, d, _⟩ := L.glob
    rw [z, hT] at e
    cases e
    cases d
theorem AtLaw.run (hr : RoomG k callerA) (F : ∀ base : Heap, K.In base → base.Ns mainGlobals mg → (∀ p ∈ tabs, TabB base mg p.1 p.2) → FnOkG P w K mg base k fa fd [x] sp) (hb : ∀ (s : Shared) (u : Value), BindsTo s fd ⟨[u], []⟩ [(x, u)])
    (hsp : ∀ H : Hp, (∀ p ∈ tabs, H p.2 = some (.tbl #[])) → SqL K H a (ns.map V.int) → sp [.ref a] H (fun v _ => v = .bl true) fun _ _ _ => False) :
    codeAny (model P w) callerA (.call (.ref fa) ⟨[.ref a], []⟩) (fun r s' => r = .ok (.ret (.bool true)) ∧ OldK st.heap s'.heap ∧ s'.os = st.os ∧ AllBare s'.gens) st := by
  have tabT : ∀ p ∈ tabs, track K tabs a vs ns p.2 = some (.tbl #[]) := fun p hp => if_pos (List.mem_map.mpr ⟨p, hp, rfl⟩)
  have m : L2.Mod K mg (under K tabs a vs ns st) := ⟨L.kinU, L.spaces L.glob, ⟨mb, L.spaces L.blt, L.boot⟩, by
    obtain ⟨mc, c1, c2⟩ := L.lim
    exact ⟨mc, L.spaces c1, c2⟩⟩
  have ev : Env0 P w K mg (under K tabs a vs ns st) callerA [] st (track K tabs a vs ns) := ⟨rfl, m, fun b o e => of_hidT e, Nat.le_of_eq (hidT_size _ _), trivial, (fun b z => by cases z), L.ok, .of_eq L.gens⟩
  refine codeAny_mono ((F _ L.kinU (L.spaces L.glob) L.tb).run (us := [.ref a]) (vs := [.ref a]) hr ev (hb st (.ref a)) (.cons rfl .nil) (hsp _ tabT L.list)) fun r s' h => ?_
  match r, h with
  | .error e, h => exact (cx_none0 h).elim
  | .ok .next, h => exact h.elim
  | .ok .brk, h => exact h.elim
  | .ok .cont, h => exact h.elim
  | .ok (.ret u), h =>
    obtain ⟨v, H', os, bare, un, hok', rv, q⟩ := h
    obtain rfl : v = .bl true := q
    obtain rfl : u = Value.bool true := rv
    have stay : ∀ b o, b ∉ tabs.map Prod.snd → st.heap.get? b = some o → s'.heap.get? b = some o := fun b o nb e => by
      rcases L.kinds b with ⟨z, _⟩ | ⟨z, _, q⟩ | ⟨_, q⟩
      · exact absurd z nb
      · have h1 := (hok' b _ (un.frzs b _ _ q)).1
        rw [z, L.script] at e
        cases e
        rw [z] at h1
        rw [z]
        exact h1
      · exact un.keep b o e q (fun z => by cases z) (fun z => by cases z)
    have grow : ∀ p ∈ tabs, ∃ more : Array Value, s'.heap.get? p.2 = some { cls := .none, data := .fields more } := fun p hp => by
      obtain ⟨more, z⟩ := un.tbls p.2 #[] (tabT p hp)
      exact ⟨_, hok' p.2 _ z⟩
    refine ⟨rfl, ⟨fun b o e => ?_, fun b o e => ?_⟩, os, bare⟩
    · by_cases nb : b ∈ tabs.map Prod.snd
      · obtain ⟨p, hp, rfl⟩ := List.mem_map.mp nb
        obtain ⟨more, hm⟩ := grow p hp
        rw [L.empty p hp] at e
        cases e
        exact .inr (.inl ⟨((L.hd p hp).tab (L.empty p hp)).isCodeTable, rfl, #[], more, rfl, by rw [Array.empty_append]; exact hm⟩)
      · exact .inl (stay b o nb e)
    · by_cases nb : b ∈ tabs.map Prod.snd
      · obtain ⟨p, hp, rfl⟩ := List.mem_map.mp nb
        obtain ⟨more, hm⟩ := grow p hp
        exact ⟨_, hm⟩
      · exact ⟨o, stay b o nb e⟩
end
end MP

/-! From the head's facts to the law. -/
namespace MP
open PySem PySem.Spec PyProof.Rows L2 LamX
def mkT (ds : List DI) (cs : List (Str × PV)) (sub : SubT) : Tx where
  fn := fun x => (ds.find? fun d => decide (d.name = x)).map DI.fn
  glob := fun x => (cs.find? fun p => decide (p.1 = x)).map (·.2)
  fields := fun _ => []
  sub := subOf sub
  fuel := 1000
/-- what a law's text is told by -/
structure LT where
  ds : List DI
  cs : List (Str × PV)
  ecs : List Str
  sub : SubT
  nob : List Str
  kws : List (Str × Nat × List Str × List Nat)
  held : DI
  heldC : Str
  tf : List Str
def LT.T (t : LT) : Tx := mkT t.ds t.cs t.sub
def LT.M (t : LT) : MD := ⟨t.T, t.nob, t.ds.map fun d => (d.name, d.ps), t.kws, (t.held.name, t.heldC)⟩
def csFa : List (Str × PV) → List He.Fa
  | [] => []
  | (x, .int i) :: r => .int x i :: csFa r
  | (x, .str z) :: r => .str x z :: csFa r
  | _ :: r => csFa r
def csOk (ds : List DI) : List (Str × PV) → Bool
  | [] => true
  | (_, .int _) :: r => csOk ds r
  | (_, .str _) :: r => csOk ds r
  | (x, .fn y) :: r => decide (x = y) && (ds.any fun d => decide (d.name = x)) && csOk ds r
  | _ :: _ => false
def LT.tfd (t : LT) : List He.Defn := t.tf.map fun f => (f, none)
def LT.fa (t : LT) : List He.Fa := t.ds.map (fun d => .glo d.name) ++ (.glo t.held.name :: (t.ecs.map (fun c => .glo c) ++ (t.ecs.map (fun c => .exc c) ++ (t.nob.map (fun x => .free x) ++ csFa t.cs))))
def LT.fn (t : LT) : List He.DefD := (t.ds ++ [t.held]).map DI.defD
def LT.ex (t : LT) : PySem.W.Frag → Bool := exB t.sub t.tfd
def LT.fl (t : LT) (K : PySem.W.Frag) : Fl := ⟨fun _ => [], tabsOf K t.tfd⟩
abbrev Bd (d : DI) : Prop := ∀ (kV doc pm : Value) (an : Option Addr) (cdv ct : Value) (us : List Value), us.length = d.ps.length → bindArgs (PySem.W.fnOf d.name d.name (defArgs d.st) (defBody d.st) (defScope d.st) .none kV doc pm an cdv ct) ⟨us, []⟩ = pure (d.ps.zip us)
abbrev Kb (d : DI) (na : Nat) (ks : List Str) (o : List Nat) : Prop := ∀ (kV doc pm : Value) (an : Option Addr) (cdv ct : Value) (us ws : List Value), us.length = na → ws.length = ks.length →
  bindArgs (PySem.W.fnOf d.name d.name (defArgs d.st) (defBody d.st) (defScope d.st) .none kV doc pm an cdv ct) ⟨us, ks.zip ws⟩ = pure (d.ps.zip (ordV o (us ++ ws)))
/-- what is to be shown of a text, once -/
structure LTOk (t : LT) : Prop where
  names : (t.ds.map DI.name).Nodup
  okd : t.ds.all (fun d => d.ok t.M) = true
  csOk : csOk t.ds t.cs = true
  sub : (t.sub.all fun x => decide (x.1 ∈ t.ecs) && decide (x.2.1 ∈ t.ecs)) = true
  tf : (t.ds.all fun d => !d.lam || decide (d.name ∈ t.tf)) = true
  bd : ∀ d ∈ t.ds, Bd d
  kb : ∀ d ∈ t.ds, ∀ na ks o, (d.name, na, ks, o) ∈ t.kws → Kb d na ks o
  bh : Bd t.held
  hps : t.held.ps = [("work" : Str)]
  hN : scB NgC ["work"] (defScope t.held.st) = true
  hB : CaughtBody t.heldC (defBody t.held.st)
  hS : CaughtScope t.heldC (defScope t.held.st)
  hC : t.heldC ∈ t.ecs
theorem find_name {ds : List DI} (nd : (ds.map DI.name).Nodup) {d : DI} (h : d ∈ ds) : (ds.find? fun e => decide (e.name = d.name)) = some d := by
  induction ds with
  | nil => cases h
  | cons e r ih =>
    rw [List.map_cons, List.nodup_cons] at nd
    rcases List.mem_cons.mp h with rfl | h'
    · simp
    · have ne : e.name ≠ d.name := fun z => nd.1 (by rw [z]; exact List.mem_map.mpr ⟨d, h', rfl⟩)
      rw [List.find?_cons]
      simp only [ne, decide_false]
      exact ih nd.2 h'
theorem csFa_mem {ds : List DI} : ∀ {cs : List (Str × PV)}, csOk ds cs = true → ∀ {x : Str} {p : PV}, (x, p) ∈ cs → (∃ i, p = .int i ∧ He.Fa.int x i ∈ csFa cs) ∨ (∃ z, p = .str z ∧ He.Fa.str x z ∈ csFa cs) ∨ (p = .fn x ∧ ∃ d ∈ ds, d.name = x)
  | [], _, x, p, h => by cases h
  | (y, q) :: r, hk, x, p, h => by
    have up : (∃ i, p = .int i ∧ He.Fa.int x i ∈ csFa r) ∨ (∃ z, p = .str z ∧ He.Fa.str x z ∈ csFa r) ∨ (p = .fn x ∧ ∃ d ∈ ds, d.name = x) → (∃ i, p = .int i ∧ He.Fa.int x i ∈ csFa ((y, q) :: r)) ∨ (∃ z, p = .str z ∧ He.Fa.str x z ∈ csFa ((y, q) :: r)) ∨ (p = .fn x ∧ ∃ d ∈ ds, d.name = x) := fun u => by
      have sub : ∀ f, f ∈ csFa r → f ∈ csFa ((y, q) :: r) := fun f hf => by
        cases q <;> simp only [csFa] <;> first | exact hf | exact List.mem_cons_of_mem _ hf
      rcases u with ⟨i, e, m⟩ | ⟨z, e, m⟩ | u
      · exact .inl ⟨i, e, sub _ m⟩
      · exact .inr (.inl ⟨z, e, sub _ m⟩)
      · exact .inr (.inr u)
    cases q <;> simp only [csOk] at hk <;> first | cases hk; done | skip
    · rcases List.mem_cons.mp h with e | h'
      · cases e
        exact .inl ⟨_, rfl, by unfold csFa; exact List.mem_cons_self⟩
      · exact up (csFa_mem hk h')
    · rcases List.mem_cons.mp h with e | h'
      · cases e
        exact .inr (.inl ⟨_, rfl, by unfold csFa; exact List.mem_cons_self⟩)
      · exact up (csFa_mem hk h')
    · simp only [Bool.and_eq_true, decide_eq_true_eq, List.any_eq_true] at hk
      obtain ⟨⟨rfl, d, hd, hn⟩, hk⟩ := hk
      rcases List.mem_cons.mp h with e | h'
      · cases e
        exact .inr (.inr ⟨rfl, d, hd, hn⟩)
      · exact up (csFa_mem hk h')
section
variable {t : LT} {w : World} {h : Heap} {K : PySem.W.Frag} {mg : Str → Option Value}
theorem binds_of {d : DI} (b : Bd d) {f : Addr} {fd : FuncData} (F : Fun K d.name d.name d.st f fd) : L2.Binds K fd d.ps [] := F.binds b
theorem fun_at {d : DI} (c : He.SaysX t.fa t.fn [] t.tfd t.ex w h K) (hd : d.defD ∈ t.fn) : ∃ fd, Fun K d.name d.name d.st (He.ga K d.name) fd := by
  obtain ⟨fd, F⟩ := He.SaysD.defs c.t.d hd
  exact ⟨fd, fun_of (d := d) F⟩
theorem mok_of (T : LTOk t) (X : K.In h) (G : h.Ns mainGlobals mg) (c : He.SaysX t.fa t.fn [] t.tfd t.ex w h K) : MOk K mg (t.fl K) t.M := by
  have fact : ∀ f ∈ t.fa, f.ok K = true := fun f hf => He.SaysD.facts c.t.d hf
  have glo : ∀ x ∈ t.ecs, mg x = some (.ref (He.ga K x)) := fun x hx => He.glo_ok X G (fact (.glo x) (by unfold LT.fa; simp [hx]))
  have gh : mg t.held.name = some (.ref (He.ga K t.held.name)) := He.glo_ok X G (fact (.glo t.held.name) (by unfold LT.fa; simp))
  have ex1 := c.more
  unfold LT.ex exB at ex1
  rw [Bool.and_eq_true] at ex1
  have subs : ∀ d e b, subOf t.sub d e = some b → (d ∈ t.ecs ∧ e ∈ t.ecs) ∧ subB K (d, e, b) = true := fun d e b hb => by
    have m := subOf_mem hb
    have h1 := List.all_eq_true.mp T.sub _ m
    simp only [Bool.and_eq_true, decide_eq_true_eq] at h1
    exact ⟨h1, List.all_eq_true.mp ex1.1 _ m⟩
  have inCs : ∀ x p, t.T.glob x = some p → (x, p) ∈ t.cs := fun x p hp => by
    obtain ⟨q, h1, h2⟩ := Option.map_eq_some_iff.mp (show ((t.cs.find? fun p => decide (p.1 = x)).map (·.2)) = some p from hp)
    have h3 := List.find?_some h1
    have h4 := List.mem_of_find?_eq_some h1
    simp only [decide_eq_true_eq] at h3
    obtain ⟨q1, q2⟩ := q
    have h2 : q2 = p := h2
    have h3 : q1 = x := h3
    subst h2 h3
    exact h4
  have gd : ∀ d ∈ t.ds, mg d.name = some (.ref (He.ga K d.name)) := fun d hd => He.glo_ok X G (fact (.glo d.name) (by unfold LT.fa; exact List.mem_append_left _ (List.mem_map.mpr ⟨d, hd, rfl⟩)))
  refine ⟨fun x hx => He.free_ok X G (fact (.free x) (by unfold LT.fa; have : x ∈ t.nob := hx; simp [this])), fun y q hq => ?_, fun x p hp => ?_, ⟨fun d e b hb => ?_⟩, fun e b hb => ?_, ?_⟩
  · rcases csFa_mem T.csOk (inCs y _ hq) with ⟨i, e, _⟩ | ⟨z, e, _⟩ | ⟨_, d, hd, hn⟩
    · cases e
    · cases e
    · exact ⟨d.ps, List.mem_map.mpr ⟨d, hd, by rw [hn]⟩⟩
  · rcases csFa_mem T.csOk (inCs x p hp) with ⟨i, e, m⟩ | ⟨z, e, m⟩ | ⟨e, d, hd, hn⟩
    · subst e
      obtain ⟨tk, hm⟩ := He.int_ok X G (fact (.int x i) (by unfold LT.fa; simp [m]))
      exact ⟨_, _, hm, show RelV (.int i) (.int i tk) from ⟨tk, rfl⟩, fun g => .int i⟩
    · subst e
      obtain ⟨tk, hm⟩ := He.str_ok X G (fact (.str x z) (by unfold LT.fa; simp [m]))
      exact ⟨_, _, hm, show RelV (.str z) (.str z tk) from ⟨tk, rfl⟩, fun g => .str z⟩
    · subst e
      have hm := gd d hd
      rw [hn] at hm
      exact ⟨_, .ref _, hm, rfl, fun g => .fn hm⟩
  · obtain ⟨⟨m1, m2⟩, hs⟩ := subs d e b hb
    unfold subB at hs
    simp only [Bool.and_eq_true, decide_eq_true_eq, List.all_eq_true] at hs
    exact ⟨_, _, glo d m1, glo e m2, excB_ok hs.1.1.1, hs.1.1.2, hs.1.2, hs.2⟩
  · obtain ⟨⟨m1, _⟩, _⟩ := subs e e b hb
    have he := fact (.exc e) (by unfold LT.fa; simp [m1])
    unfold He.Fa.ok at he
    simp only [Bool.and_eq_true, decide_eq_true_eq] at he
    exact ⟨_, glo e m1, ⟨⟨_, _, _, _, PySem.F.excBase_ValueError, he.1⟩, he.2.1, he.2.2.1, he.2.2.2⟩, rfl⟩
  · obtain ⟨fd, F⟩ := fun_at (d := t.held) c (by unfold LT.fn; simp)
    refine ⟨_, fd, _, t.held.st, gh, F, ?_, sc_ok T.hN, T.hB, T.hS, glo _ T.hC⟩
    have := binds_of T.bh F
    rw [T.hps] at this
    exact this
theorem lam_of (T : LTOk t) (c : He.SaysX t.fa t.fn [] t.tfd t.ex w h K) {base : Heap} (TB : ∀ p ∈ t.tfd.map (He.cT K), TabB base mg p.1 p.2) {d : DI} (hd : d ∈ t.ds) {fd : FuncData} (F : Fun K d.name d.name d.st (He.ga K d.name) fd) (hl : d.lam = true) :
    ∃ c P, fd.code = .ref c ∧ TabB base mg c P ∧ (P, (d.name ++ ".<locals>.") ++ "<lambda>") ∈ (t.fl K).T ∧ ∀ p ∈ (t.fl K).T, p.1 = P → p.2 = (d.name ++ ".<locals>.") ++ "<lambda>" := by
  have ex1 := c.more
  unfold LT.ex exB at ex1
  rw [Bool.and_eq_true, decide_eq_true_eq] at ex1
  obtain ⟨oc, od, kV, doc, pm, an, cdv, ct, osl, rfl, lk, hcd⟩ := F.ex
  obtain ⟨cc, rfl⟩ := He.codeIn_ref hcd
  have htf : d.name ∈ t.tf := by
    have := List.all_eq_true.mp T.tf d hd
    rw [hl] at this
    simpa using this
  have hmem : ((d.name, none) : He.Defn) ∈ t.tfd := List.mem_map.mpr ⟨d.name, htf, rfl⟩
  have hc : He.codeOf K (d.name, none) = cc := He.codeOf_eq (p := (d.name, none)) lk rfl
  refine ⟨cc, (He.cT K (d.name, none)).2, rfl, ?_, List.mem_map.mpr ⟨(d.name, none), hmem, rfl⟩, fun p hp e => ?_⟩
  · have := TB (He.cT K (d.name, none)) (List.mem_map.mpr ⟨_, hmem, rfl⟩)
    rw [show (He.cT K (d.name, none)).1 = cc from hc] at this
    exact this
  · obtain ⟨q, hq, rfl⟩ := List.mem_map.mp hp
    have := nodup_inj ex1.2 hq hmem e
    rw [this]
theorem dok_of (T : LTOk t) (X : K.In h) (G : h.Ns mainGlobals mg) (c : He.SaysX t.fa t.fn [] t.tfd t.ex w h K) {base : Heap} (TB : ∀ p ∈ t.tfd.map (He.cT K), TabB base mg p.1 p.2) {d : DI} (hd : d ∈ t.ds) : DOk K mg base (t.fl K) t.M d := by
  have fact : ∀ f ∈ t.fa, f.ok K = true := fun f hf => He.SaysD.facts c.t.d hf
  obtain ⟨fd, F⟩ := fun_at (d := d) c (by unfold LT.fn; exact List.mem_map.mpr ⟨d, List.mem_append_left _ hd, rfl⟩)
  have hm : mg d.name = some (.ref (He.ga K d.name)) := He.glo_ok X G (fact (.glo d.name) (by unfold LT.fa; exact List.mem_append_left _ (List.mem_map.mpr ⟨d, hd, rfl⟩)))
  refine ⟨_, fd, hm, F, binds_of (T.bd d hd) F, fun na ks o hk => ?_, lam_of T c TB hd F⟩
  obtain ⟨oc, od, kV, doc, pm, an, cdv, ct, osl, rfl, lk, hcd⟩ := F.ex
  exact T.kb d hd na ks o hk kV doc pm an cdv ct
/-- the law's promise -/
theorem law_sp {n k : Nat} {lawD : DI} (T : LTOk t) (law : ∀ ns : List Int, ns.length ≤ n → (∀ z ∈ ns, Builtin.Int.intBits z ≤ 1048576) → ∃ s, callF t.T k lawD.name [.wl (ns.map PV.int)] [] = .ok (.bl true) s)
    (H : Hp) (a : Addr) (ns : List Int) (h1 : ns.length ≤ n) (h2 : ∀ z ∈ ns, Builtin.Int.intBits z ≤ 1048576) (h3 : ∀ p ∈ t.tfd.map (He.cT K), H p.2 = some (.tbl #[])) (h4 : SqL K H a (ns.map V.int)) :
    spF K mg (t.fl K) (callF t.T k) 1 lawD.name [.ref a] H (fun v _ => v = .bl true) fun _ _ _ => False := by
  obtain ⟨s, hs⟩ := law ns h1 h2
  let Fh : Hp := fun b => if b = a then (match H a with | some (.tbl _) => none | o => o) else none
  have hF : ∀ b o, Fh b = some o → H b = some o ∧ ∀ ps, o ≠ .tbl ps := fun b o e => by
    have e : (if b = a then (match H a with | some (.tbl _) => none | o => o) else none) = some o := e
    split at e
    · rename_i hb
      subst hb
      split at e
      · cases e
      · rename_i hn
        exact ⟨e, fun ps z => hn ps (by rw [e, z])⟩
    · cases e
  have hS : SqL K Fh a (ns.map V.int) := by
    rcases h4 with (q | ⟨o, q⟩) | q
    · refine .inl (.inl ?_)
      show (if a = a then (match H a with | some (.tbl _) => none | o => o) else none) = _
      rw [if_pos rfl, q]
    · refine .inl (.inr ⟨o, ?_⟩)
      show (if a = a then (match H a with | some (.tbl _) => none | o => o) else none) = _
      rw [if_pos rfl, q]
    · exact .inr q
  have rvs : ∀ g : Gh, ∀ ms : List Int, RVs K mg (t.fl K) g (ms.map V.int) (ms.map PV.int) := fun g ms => by
    induction ms with
    | nil => exact .nil
    | cons m ms ih => exact .cons (.int m) ih
  refine ⟨rfl, ⟨Fh, [], fun _ => none⟩, [], [.wl (ns.map PV.int)], ?_, .cons (.wl hS (rvs _ ns)) .nil, ?_⟩
  · have nn : ∀ {b : Addr} {o : HO}, (none : Option HO) ≠ some o := fun z => by cases z
    have nm : ∀ {b : Addr}, b ∉ ([] : List Addr) := fun z => by cases z
    refine ⟨fun b o e => (hF b o e).1, rfl, List.nodup_nil, fun b hb => absurd hb nm, fun b o e => absurd e (nn (b := b)), fun b o e => absurd e (nn (b := b)), fun b hb => absurd hb nm, fun p hp => ?_, fun b ps e => (hF b _ e).2 ps rfl, fun b ps e => absurd e (nn (b := b)), fun m b o e => (by have e : (none : Option Addr) = some b := e; cases e)⟩
    obtain ⟨q, hq, rfl⟩ := List.mem_map.mp hp
    exact TabS.nil (h3 (He.cT K q) (List.mem_map.mpr ⟨q, hq, rfl⟩))
  · rw [hs]
    intro v H' g' _ _ r
    cases r
    rfl
end
/-- from the plain equation to the law's walk -/
theorem law_walk {t : LT} {l : PySem.W.OpenLaw} {n k : Nat} {q : Program} {loose : List Str} {XP : (Str → Option Value) → Heap → Prop} {YP : World → Heap → Prop} {d : DefRec} {lawD : DI} (T : LTOk t) (hn : l.most = some n) (hn2 : n ≤ sizeLine) (hdf : d.params.defaults = [])
    (hr : Room (2 * k + 1) callerA) (hd : lawD ∈ t.ds) (hps : lawD.ps = [("script" : Str)]) (hname : d.name = lawD.name) (hY : ∀ w h, YP w h → ∃ K : PySem.W.Frag, K.In h ∧ He.SaysX t.fa t.fn [] t.tfd t.ex w h K)
    (law : ∀ ns : List Int, ns.length ≤ n → (∀ z ∈ ns, Builtin.Int.intBits z ≤ 1048576) → ∃ s, callF t.T k lawD.name [.wl (ns.map PV.int)] [] = .ok (.bl true) s) :
    PySem.W.WalkO q loose XP YP l.row.toRowW d [] (fun f vs => PySem.call f vs) := by
  refine Att.attach_callB hn hdf fun w s₀ s₁ mg mb fa o pm cd doc a vs ns G Y ho hod hcd hmg hobj hints hlen hbits hg => ?_
  obtain ⟨K, X, c⟩ := hY w _ Y
  have GG := G.T.g
  obtain ⟨fd, F⟩ := fun_at (d := lawD) c (by unfold LT.fn; exact List.mem_map.mpr ⟨lawD, List.mem_append_left _ hd, rfl⟩)
  have hm' : mg lawD.name = some (.ref (He.ga K lawD.name)) := He.glo_ok X GG (He.SaysD.facts c.t.d (by unfold LT.fa; exact List.mem_append_left _ (List.mem_map.mpr ⟨lawD, hd, rfl⟩)))
  rw [← hname, hmg] at hm'
  have hfa : fa = He.ga K lawD.name := by
    injection hm' with e
    injection e with e
    rw [e, hname]
  have tab : ∀ p ∈ t.tfd.map (He.cT K), ∃ q ∈ t.tfd, He.cT K q = p := fun p hp => List.mem_map.mp hp
  have at_ : AtLaw K mg mb (t.tfd.map (He.cT K)) a vs ns s₁ := {
    kin := X
    glob := GG
    blt := G.T.b
    boot := G.T.builtins
    lim := G.T.nolimit
    gens := hg
    empty := fun p hp => by
      obtain ⟨q, h1, rfl⟩ := tab p hp
      exact c.empty q h1
    out := fun p hp => by
      obtain ⟨q, h1, rfl⟩ := tab p hp
      exact c.out q h1
    hd := fun p hp => by
      obtain ⟨q, h1, rfl⟩ := tab p hp
      exact PySem.W.codeHd_of_K X (c.hd q h1)
    bm := G.T.bmain
    script := hobj
    nums := hints
    short := Nat.le_trans hlen hn2 }
  refine at_.run (x := "script") (k := 2 * k + 1) (fd := fd) (sp := spF K mg (t.fl K) (callF t.T k) 1 lawD.name) ⟨hr, rfl⟩ (fun base hK hN TB => ?_) (fun s u => ?_) fun H hH hS => law_sp T law H a ns hlen hbits hH hS
  · have hmF : mg lawD.name = some (.ref fa) := by rw [← hname]; exact hmg
    have ck := (all_ok (P := l.prog) (w := w) (mok_of T X GG c) (ds := t.ds) (base := base) (fun d hd => by
        show ((t.ds.find? fun e => decide (e.name = d.name)).map DI.fn) = _
        rw [find_name T.names hd]
        rfl) (fun d hd => List.all_eq_true.mp T.okd d hd) (fun d hd => dok_of T X GG c TB hd) (fun f ps hf => by
        obtain ⟨d, h1, h2⟩ := List.mem_map.mp hf
        injection h2 with e1 e2
        exact ⟨d, h1, e1, e2⟩) k).2.2 lawD hd _ fd F (by rw [← hfa]; exact hmF) (lam_of T c TB hd F)
    rw [hps, ← hfa] at ck
    exact ck
  · obtain ⟨oc, od, kV, doc, pm, an, cdv, ct, osl, rfl, lk, hcd⟩ := F.ex
    have := T.bd lawD hd kV doc pm an cdv ct [u] (by rw [hps]; rfl)
    rw [hps] at this
    exact .of_eq this
end MP
namespace MP
open PySem PySem.Spec PyProof.Rows L2 LamX
def AllL (P : DI → Prop) : List DI → Prop
  | [] => True
  | d :: r => P d ∧ AllL P r
theorem AllL.mem {P : DI → Prop} : ∀ {l : List DI}, AllL P l → ∀ d ∈ l, P d
  | [], _, d, h => by cases h
  | e :: r, a, d, h => by
    rcases List.mem_cons.mp h with rfl | h'
    · exact a.1
    · exact AllL.mem a.2 d h'
inductive AllK (ds : List DI) : List (Str × Nat × List Str × List Nat) → Prop where
  | nil : AllK ds []
  | cons {e : List (Str × Nat × List Str × List Nat)} {d : DI} {f : Str} {na : Nat} {ks : List Str} {o : List Nat} (h : AllK ds e) (m : d ∈ ds) (n : d.name = f) (k : Kb d na ks o) : AllK ds ((f, na, ks, o) :: e)
theorem kb_all {ds : List DI} (nd : (ds.map DI.name).Nodup) : ∀ {l : List (Str × Nat × List Str × List Nat)}, AllK ds l → ∀ d ∈ ds, ∀ na ks o, (d.name, na, ks, o) ∈ l → Kb d na ks o
  | _, .nil, d, hd, na, ks, o, h => by cases h
  | _, .cons a m n k, d, hd, na, ks, o, h => by
    rcases List.mem_cons.mp h with e | h'
    · injection e with e1 e2
      injection e2 with e2 e3
      injection e3 with e3 e4
      subst e2 e3 e4
      have := nodup_inj nd hd m (e1.trans n.symm)
      subst this
      exact k
    · exact kb_all nd a d hd na ks o h'
theorem room_of {k : Nat} (h : 2 * k + 1 ≤ 220) : Room (2 * k + 1) callerA := by
  have r : Room 220 callerA := ⟨rfl, by decide, by decide⟩
  exact r.mono (by omega)
theorem cx_none {P : Program} {w : World} {outer : List PySem.Env} {H : Hp} {s : Shared} {e : Value} {s' : Shared} (z : L2.CX P w outer H s (fun _ _ _ => False) e s') : False := by
  obtain ⟨_, _, _, _, _, _, _, _, _, _, _, _, z⟩ := z
  exact z
end MP

/-! What the evaluator gives: lemmas for plain laws. -/
namespace MP
open PySem L2 TL
theorem freeze_in {n : Nat} {s : Store} {v : PV} (h : v.inb n = true) : ∀ k, freeze n s k v = some v
  | 0 => by unfold freeze; rw [if_pos h]
  | k + 1 => by unfold freeze; rw [if_pos h]
theorem inb_int (n : Nat) (i : Int) : PV.inb n (.int i) = true := by simp [PV.inb]
theorem inb_str (n : Nat) (z : Str) : PV.inb n (.str z) = true := by simp [PV.inb]
theorem inb_bl (n : Nat) (b : Bool) : PV.inb n (.bl b) = true := by simp [PV.inb]
theorem inb_non (n : Nat) : PV.inb n .non = true := by simp [PV.inb]
theorem inb_exc (n : Nat) (c : Str) : PV.inb n (.exc c []) = true := by simp [PV.inb]
/-- nothing of the store was changed -/
theorem hb_same {s s' : Store} {v : PV} (hv : v.inb s.length = true) (h : s'.take s.length = s) : handBack s.length s v s' = .ok v s := by
  unfold handBack
  rw [freeze_in hv]
  dsimp only
  rw [if_pos (by rw [h]; exact beqSt_rfl _)]
theorem he_same {s s' : Store} {v : PV} (hv : v.inb s.length = true) (h : s'.take s.length = s) : handExc s.length s v s' = .exc v s := by
  unfold handExc
  rw [freeze_in hv]
  dsimp only
  rw [if_pos (by rw [h]; exact beqSt_rfl _)]
@[simp] theorem take_len (s : Store) : s.take s.length = s := List.take_length
/-- changed in place, nothing new -/
theorem hb_len {s s' : Store} {v : PV} (hv : v.inb s.length = true) (h : s'.length = s.length) : handBack s.length s v s' = .ok v s' := by
  unfold handBack
  rw [freeze_in hv]
  dsimp only
  have e : s'.take s.length = s' := by rw [← h]; exact List.take_length
  rw [e]
  split
  · rename_i q
    rw [beqSt_eq _ _ q]
  · split <;> rfl
/-- changed in place, new things behind -/
theorem hb_app {s s' t : Store} {v : PV} (hv : v.inb s.length = true) (h : s'.length = s.length) (hin : s'.all (SO.inb s.length) = true) : handBack s.length s v (s' ++ t) = .ok v s' := by
  unfold handBack
  rw [freeze_in hv]
  dsimp only
  have e : (s' ++ t).take s.length = s' := by rw [← h]; exact List.take_left
  rw [e]
  split
  · rename_i q
    rw [beqSt_eq _ _ q]
  · first | rw [if_pos hin] | (dsimp only; rw [if_pos hin]) | (split <;> first | rfl | (rename_i q; exact absurd hin q)) | skip
    rfl
theorem bools_map {α : Type} (p : α → Bool) : ∀ l : List α, bools? (l.map fun c => PV.bl (p c)) = some (l.map p)
  | [] => rfl
  | c :: l => by
    show (bools? (l.map fun c => PV.bl (p c))).map (p c :: ·) = _
    rw [bools_map p l]
    rfl
theorem ints_map {α : Type} (p : α → Int) : ∀ l : List α, ints? (l.map fun c => PV.int (p c)) = some (l.map p)
  | [] => rfl
  | c :: l => by
    show (ints? (l.map fun c => PV.int (p c))).map (p c :: ·) = _
    rw [ints_map p l]
    rfl
theorem strs_map {α : Type} (p : α → Str) : ∀ l : List α, strs? (l.map fun c => PV.str (p c)) = some (l.map p)
  | [] => rfl
  | c :: l => by
    show (strs? (l.map fun c => PV.str (p c))).map (p c :: ·) = _
    rw [strs_map p l]
    rfl
/-- a comprehension that leaves the store alone -/
theorem comp_map {α : Type} {f : PV → Store → Res (Option PV)} {live : List (Nat × List PV)} {s : Store} {h : α → PV} {g : α → PV} (hl : liveOk s live = true) : ∀ (l : List α) (acc : List PV), (∀ c ∈ l, f (h c) s = .ok (some (g c)) s) → acc.length + l.length ≤ line →
    compLoop f live (l.map h) acc s = .ok (acc ++ l.map g) s
  | [], acc, _, _ => by
    unfold compLoop
    rw [List.map_nil, List.map_nil, List.append_nil]
    dsimp only
    rw [if_pos hl]
  | c :: l, acc, hf, hz => by
    rw [List.length_cons] at hz
    rw [List.map_cons, List.map_cons]
    unfold compLoop
    rw [if_pos hl, hf c List.mem_cons_self]
    dsimp only
    rw [if_pos (by omega), comp_map hl l _ (fun d hd => hf d (List.mem_cons_of_mem _ hd)) (by rw [List.length_append]; simp; omega), List.append_assoc]
    rfl
/-- .. with a test -/
theorem comp_filter {α : Type} {f : PV → Store → Res (Option PV)} {live : List (Nat × List PV)} {s : Store} {h : α → PV} {g : α → PV} {p : α → Bool} (hl : liveOk s live = true) : ∀ (l : List α) (acc : List PV), (∀ c ∈ l, f (h c) s = .ok (if p c then some (g c) else none) s) → acc.length + l.length ≤ line →
    compLoop f live (l.map h) acc s = .ok (acc ++ (l.filter p).map g) s
  | [], acc, _, _ => by
    unfold compLoop
    rw [List.map_nil, List.filter_nil, List.map_nil, List.append_nil]
    dsimp only
    rw [if_pos hl]
  | c :: l, acc, hf, hz => by
    rw [List.length_cons] at hz
    rw [List.map_cons]
    unfold compLoop
    rw [if_pos hl, hf c List.mem_cons_self]
    cases hp : p c with
    | true =>
      rw [if_pos rfl, List.filter_cons_of_pos hp, List.map_cons]
      dsimp only
      rw [if_pos (by omega), comp_filter hl l _ (fun d hd => hf d (List.mem_cons_of_mem _ hd)) (by rw [List.length_append]; simp; omega), List.append_assoc]
      rfl
    | false =>
      rw [if_neg Bool.false_ne_true, List.filter_cons_of_neg (by rw [hp]; exact Bool.false_ne_true)]
      dsimp only
      exact comp_filter hl l _ (fun d hd => hf d (List.mem_cons_of_mem _ hd)) (by omega)
/-- a comprehension by an invariant -/
theorem comp_inv {f : PV → Store → Res (Option PV)} (P : Nat → List PV → Store → Prop) : ∀ (items : List PV) (i : Nat) (acc : List PV) (s : Store), P i acc s →
    (∀ j x acc s, items[j]? = some x → P (i + j) acc s → ∃ y s', f x s = .ok (some y) s' ∧ acc.length < line ∧ P (i + j + 1) (acc ++ [y]) s') → ∃ acc' s', compLoop f [] items acc s = .ok acc' s' ∧ P (i + items.length) acc' s'
  | [], i, acc, s, h, _ => by
    refine ⟨acc, s, ?_, h⟩
    unfold compLoop
    rw [if_pos (show liveOk _ [] = true from rfl)]
  | x :: r, i, acc, s, h, hs => by
    obtain ⟨y, s', e1, e2, e3⟩ := hs 0 x acc s rfl h
    obtain ⟨acc', s2, q1, q2⟩ := comp_inv P r (i + 1) (acc ++ [y]) s' e3 fun j x acc s hx hp => by
      have := hs (j + 1) x acc s (by simpa using hx) (by rw [show i + (j + 1) = i + 1 + j by omega]; exact hp)
      rw [show i + (j + 1) + 1 = i + 1 + j + 1 by omega] at this
      exact this
    refine ⟨acc', s2, ?_, by rw [List.length_cons, show i + (r.length + 1) = i + 1 + r.length by omega]; exact q2⟩
    unfold compLoop
    rw [if_pos (show liveOk _ [] = true from rfl), e1]
    dsimp only
    rw [if_pos e2]
    exact q1
/-- a loop by an invariant -/
theorem for_inv {F : PV → Env → Store → SR} {live : List (Nat × List PV)} (P : Nat → Env → Store → Prop) : ∀ (items : List PV) (i : Nat) (env : Env) (s : Store), P i env s → (∀ j env s, P j env s → liveOk s live = true) →
    (∀ j x env s, items[j]? = some x → P (i + j) env s → ∃ env' s', (F x env s = .nx env' s' ∨ F x env s = .ct env' s') ∧ P (i + j + 1) env' s') → ∃ env' s', forLoop F live items env s = .nx env' s' ∧ P (i + items.length) env' s'
  | [], i, env, s, h, hl, _ => by
    refine ⟨env, s, ?_, h⟩
    unfold forLoop
    rw [if_pos (hl _ _ _ h)]
  | x :: r, i, env, s, h, hl, hs => by
    obtain ⟨env1, s1, e1, e2⟩ := hs 0 x env s rfl h
    obtain ⟨env2, s2, q1, q2⟩ := for_inv P r (i + 1) env1 s1 e2 hl fun j x env s hx hp => by
      have := hs (j + 1) x env s (by simpa using hx) (by rw [show i + (j + 1) = i + 1 + j by omega]; exact hp)
      rw [show i + (j + 1) + 1 = i + 1 + j + 1 by omega] at this
      exact this
    refine ⟨env2, s2, ?_, by rw [List.length_cons, show i + (r.length + 1) = i + 1 + r.length by omega]; exact q2⟩
    unfold forLoop
    rw [if_pos (hl _ _ _ h)]
    rcases e1 with e1 | e1
    · rw [e1]; exact q1
    · rw [e1]; exact q1
theorem ev_comp {α : Type} {C : Calls} {elt : IE} {tg : Tg} {own : List Nat} {it : IT} {env : Env} {s : Store} {live : List (Nat × List PV)} {h g : α → PV} (l : List α) (hit : evit C it env s = .ok ⟨l.map h, live⟩ s) (hl : liveOk s live = true) (hz : l.length ≤ line)
    (hf : ∀ c ∈ l, ∃ env', bindTg tg (h c) s (own.foldl (fun e i => e.set i .und) env) = some env' ∧ ev C elt env' s = .ok (g c) s) : ev C (.comp false elt tg own it .no) env s = .ok (.lst (l.map g)) s := by
  rw [ev.eq_26, hit]
  dsimp only [Res.bind_ok]
  rw [comp_map hl l [] (fun c hc => by
    obtain ⟨env', e1, e2⟩ := hf c hc
    unfold compF
    rw [e1]
    dsimp only [Res.bind_ok]
    rw [if_pos rfl, e2]
    rfl) (by simpa using hz)]
  rfl
theorem ev_filt {α : Type} {C : Calls} {elt c : IE} {tg : Tg} {own : List Nat} {it : IT} {env : Env} {s : Store} {live : List (Nat × List PV)} {h g : α → PV} {p : α → Bool} (l : List α) (hit : evit C it env s = .ok ⟨l.map h, live⟩ s) (hl : liveOk s live = true) (hz : l.length ≤ line)
    (hf : ∀ a ∈ l, ∃ env', bindTg tg (h a) s (own.foldl (fun e i => e.set i .und) env) = some env' ∧ ev C c env' s = .ok (.bl (p a)) s ∧ (p a = true → ev C elt env' s = .ok (g a) s)) (bx : Bool) : ev C (.comp bx elt tg own it (.so c)) env s = mkL bx (.lst ((l.filter p).map g)) s := by
  rw [ev.eq_27, hit]
  dsimp only [Res.bind_ok]
  rw [comp_filter (g := g) (p := p) hl l [] (fun a ha => by
    obtain ⟨env', e1, e2, e3⟩ := hf a ha
    unfold compF
    rw [e1]
    dsimp only [Res.bind_ok]
    rw [e2]
    dsimp only [Res.bind_ok, truth, Res.of_some]
    cases hp : p a with
    | true => rw [if_pos rfl, e3 hp]; rfl
    | false => rfl) (by simpa using hz)]
  rfl
theorem for_nx {F : PV → Env → Store → SR} {live : List (Nat × List PV)} {x : PV} {r : List PV} {env env' : Env} {s s' : Store} (hl : liveOk s live = true) (e : F x env s = .nx env' s') : forLoop F live (x :: r) env s = forLoop F live r env' s' := by
  conv => lhs; unfold forLoop
  rw [if_pos hl, e]
theorem for_nil {F : PV → Env → Store → SR} {live : List (Nat × List PV)} {env : Env} {s : Store} (hl : liveOk s live = true) : forLoop F live [] env s = .nx env s := by
  unfold forLoop
  rw [if_pos hl]
/-- one turn of a for -/
def bodyF (C : Calls) (tg : Tg) (b : ISs) (x : PV) (env : Env) (s : Store) : SR := match bindTg tg x s env with
  | some env' => exs C b env' s
  | none => .stk
theorem ex_for {C : Calls} {tg : Tg} {it : IT} {b : ISs} {env : Env} {s s1 : Store} {items : List PV} {live : List (Nat × List PV)} {r : SR} (hit : evit C it env s = .ok ⟨items, live⟩ s1) (h : forLoop (bodyF C tg b) live items env s1 = r) : ex C (.for tg it b) env s = r := by
  rw [ex.eq_8, hit, Res.sr_ok]
  exact h
theorem call_rt {T : Tx} {k : Nat} {f : Str} {d : FnI} {vs : List PV} {s s' : Store} {v : PV} (hf : T.fn f = some d) (hl : vs.length = d.params) (e : exs (callsOf T k) d.body (vs ++ List.replicate (d.slots - d.params) .und) s = .rt v s') : callF T (k + 1) f vs s = handBack s.length s v s' := by
  rw [callF_succ]
  unfold call1
  rw [hf]
  dsimp only
  rw [if_pos hl, e]
theorem call_pure {T : Tx} {k : Nat} {f : Str} {d : FnI} {vs : List PV} {s : Store} {v : PV} (hf : T.fn f = some d) (hl : vs.length = d.params) (hv : v.inb s.length = true) (e : exs (callsOf T k) d.body (vs ++ List.replicate (d.slots - d.params) .und) s = .rt v s) : callF T (k + 1) f vs s = .ok v s := by
  rw [call_rt hf hl e, hb_same hv (take_len _)]
theorem call_exc {T : Tx} {k : Nat} {f : Str} {d : FnI} {vs : List PV} {s : Store} {v : PV} {env : Env} (hf : T.fn f = some d) (hl : vs.length = d.params) (hv : v.inb s.length = true) (e : exs (callsOf T k) d.body (vs ++ List.replicate (d.slots - d.params) .und) s = .exc v env s) : callF T (k + 1) f vs s = .exc v s := by
  rw [callF_succ]
  unfold call1
  rw [hf]
  dsimp only
  rw [if_pos hl, e]
  exact he_same hv (take_len _)
end MP

/-! The evaluator by rules. -/
namespace MP
open PySem L2 TL
section
variable {C : Calls} {a b c d e : IE} {env env' : Env} {s s1 s2 s3 s4 s' : Store} {x y z w v : PV} {t : Bool} {r : Res PV} {ss tt : ISs} {rs : SR} {i j n : Nat} {f : Str}
theorem line_eq : line = 16777216 := by decide
theorem ev_v (h : env[i]? = some v) (hv : v ≠ .und) : ev C (.var i) env s = .ok v s := by
  rw [ev.eq_5, h]
  cases v <;> first | rfl | exact absurd rfl hv
theorem v_int {k : Int} (h : env[i]? = some (.int k)) : ev C (.var i) env s = .ok (.int k) s := ev_v h (by intro z; cases z)
theorem v_str {k : Str} (h : env[i]? = some (.str k)) : ev C (.var i) env s = .ok (.str k) s := ev_v h (by intro z; cases z)
theorem v_bl {k : Bool} (h : env[i]? = some (.bl k)) : ev C (.var i) env s = .ok (.bl k) s := ev_v h (by intro z; cases z)
theorem v_non (h : env[i]? = some .non) : ev C (.var i) env s = .ok .non s := ev_v h (by intro z; cases z)
theorem v_tup {k : List PV} (h : env[i]? = some (.tup k)) : ev C (.var i) env s = .ok (.tup k) s := ev_v h (by intro z; cases z)
theorem v_lst {k : List PV} (h : env[i]? = some (.lst k)) : ev C (.var i) env s = .ok (.lst k) s := ev_v h (by intro z; cases z)
theorem v_wl {k : List PV} (h : env[i]? = some (.wl k)) : ev C (.var i) env s = .ok (.wl k) s := ev_v h (by intro z; cases z)
theorem v_obj {k : Nat} (h : env[i]? = some (.obj k)) : ev C (.var i) env s = .ok (.obj k) s := ev_v h (by intro z; cases z)
theorem v_exc {k : Str} {l : List PV} (h : env[i]? = some (.exc k l)) : ev C (.var i) env s = .ok (.exc k l) s := ev_v h (by intro z; cases z)
theorem int_V {k : Int} : ev C (.int k) env s = .ok (.int k) s := ev.eq_1 ..
theorem str_V {k : Str} : ev C (.str k) env s = .ok (.str k) s := ev.eq_2 ..
theorem bl_V : ev C (.bl t) env s = .ok (.bl t) s := ev.eq_3 ..
theorem non_V : ev C .non env s = .ok .non s := ev.eq_4 ..
theorem glob_V (h : C.glob f = some v) : ev C (.glob f) env s = .ok v s := by
  rw [ev.eq_6, h]
  rfl
theorem bin_V {op : BOp} (ha : ev C a env s = .ok x s1) (hb : ev C b env s1 = .ok y s2) (h : binSem op s2 x y = some z) : ev C (.bin false op a b) env s = .ok z s2 := by
  rw [ev.eq_7, ha, Res.bind_ok, hb, Res.bind_ok, h]
  rfl
theorem add_i {k l : Int} : binSem .add s (.int k) (.int l) = some (.int (k + l)) := rfl
theorem sub_i {k l : Int} : binSem .sub s (.int k) (.int l) = some (.int (k - l)) := rfl
theorem add_V {k l : Int} (ha : ev C a env s = .ok (.int k) s1) (hb : ev C b env s1 = .ok (.int l) s2) : ev C (.bin false .add a b) env s = .ok (.int (k + l)) s2 := bin_V ha hb rfl
theorem sub_V {k l : Int} (ha : ev C a env s = .ok (.int k) s1) (hb : ev C b env s1 = .ok (.int l) s2) : ev C (.bin false .sub a b) env s = .ok (.int (k - l)) s2 := bin_V ha hb rfl
theorem mul_V {k l : Int} (ha : ev C a env s = .ok (.int k) s1) (hb : ev C b env s1 = .ok (.int l) s2) (h : bits k + bits l < 900000) : ev C (.bin false .mul a b) env s = .ok (.int (k * l)) s2 :=
  bin_V ha hb (by show (if bits k + bits l < 900000 then some (PV.int (k * l)) else none) = _; rw [if_pos h])
theorem fdiv_V {k l : Int} (ha : ev C a env s = .ok (.int k) s1) (hb : ev C b env s1 = .ok (.int l) s2) (h : 0 < l ∧ bits l < 9000) : ev C (.bin false .fdiv a b) env s = .ok (.int (k / l)) s2 :=
  bin_V ha hb (by show (if 0 < l ∧ bits l < 9000 then some (PV.int (k / l)) else none) = _; rw [if_pos h])
theorem mod_V {k l : Int} (ha : ev C a env s = .ok (.int k) s1) (hb : ev C b env s1 = .ok (.int l) s2) (h : 0 < l) : ev C (.bin false .mod a b) env s = .ok (.int (k % l)) s2 :=
  bin_V ha hb (by show (if 0 < l then some (PV.int (k % l)) else none) = _; rw [if_pos h])
theorem neg_V {k : Int} (ha : ev C a env s = .ok (.int k) s1) : ev C (.neg a) env s = .ok (.int (-k)) s1 := by
  rw [ev.eq_8, ha]
  rfl
theorem or_T (h : ev C a env s = .ok (.bl true) s') : ev C (.or a b) env s = .ok (.bl true) s' := by
  rw [ev.eq_11, h, Res.bind_ok]
  rfl
theorem or_F (h : ev C a env s = .ok (.bl false) s') (h2 : ev C b env s' = r) : ev C (.or a b) env s = r := by
  rw [ev.eq_11, h, Res.bind_ok, ← h2]
  rfl
theorem and_T (h : ev C a env s = .ok (.bl true) s') (h2 : ev C b env s' = r) : ev C (.and a b) env s = r := by
  rw [ev.eq_10, h, Res.bind_ok, ← h2]
  rfl
theorem and_F (h : ev C a env s = .ok (.bl false) s') : ev C (.and a b) env s = .ok (.bl false) s' := by
  rw [ev.eq_10, h, Res.bind_ok]
  rfl
/-- both, whatever they say -/
theorem or_B {u : Bool} (h : ev C a env s = .ok (.bl t) s) (h2 : t = false → ev C b env s = .ok (.bl u) s) : ev C (.or a b) env s = .ok (.bl (t || u)) s := by
  cases t with
  | true => exact or_T h
  | false => exact or_F h (h2 rfl)
theorem and_B {u : Bool} (h : ev C a env s = .ok (.bl t) s) (h2 : t = true → ev C b env s = .ok (.bl u) s) : ev C (.and a b) env s = .ok (.bl (t && u)) s := by
  cases t with
  | true => exact and_T h (h2 rfl)
  | false => exact and_F h
theorem nt_V (h : ev C a env s = .ok (.bl t) s') : ev C (.nt a) env s = .ok (.bl (!t)) s' := by
  rw [ev.eq_9, h, Res.bind_ok]
  rfl
theorem cmp_V {op : COp} (ha : ev C a env s = .ok x s1) (hb : ev C b env s1 = .ok y s2) (h : cmpSem op s2 x y = some t) : ev C (.cmp op a b) env s = .ok (.bl t) s2 := by
  rw [ev.eq_12, ha, Res.bind_ok, hb, Res.bind_ok, h]
  rfl
theorem lt_V {k l : Int} (ha : ev C a env s = .ok (.int k) s1) (hb : ev C b env s1 = .ok (.int l) s2) : ev C (.cmp .lt a b) env s = .ok (.bl (decide (k < l))) s2 := cmp_V ha hb rfl
theorem le_V {k l : Int} (ha : ev C a env s = .ok (.int k) s1) (hb : ev C b env s1 = .ok (.int l) s2) : ev C (.cmp .le a b) env s = .ok (.bl (decide (k ≤ l))) s2 := cmp_V ha hb rfl
theorem gt_V {k l : Int} (ha : ev C a env s = .ok (.int k) s1) (hb : ev C b env s1 = .ok (.int l) s2) : ev C (.cmp .gt a b) env s = .ok (.bl (decide (l < k))) s2 := cmp_V ha hb rfl
theorem ge_V {k l : Int} (ha : ev C a env s = .ok (.int k) s1) (hb : ev C b env s1 = .ok (.int l) s2) : ev C (.cmp .ge a b) env s = .ok (.bl (decide (l ≤ k))) s2 := cmp_V ha hb rfl
theorem eqi_V {k l : Int} (ha : ev C a env s = .ok (.int k) s1) (hb : ev C b env s1 = .ok (.int l) s2) : ev C (.cmp .eq a b) env s = .ok (.bl (decide (k = l))) s2 := cmp_V ha hb rfl
theorem nei_V {k l : Int} (ha : ev C a env s = .ok (.int k) s1) (hb : ev C b env s1 = .ok (.int l) s2) : ev C (.cmp .ne a b) env s = .ok (.bl (!decide (k = l))) s2 := cmp_V ha hb rfl
theorem eqs_V {k l : Str} (ha : ev C a env s = .ok (.str k) s1) (hb : ev C b env s1 = .ok (.str l) s2) : ev C (.cmp .eq a b) env s = .ok (.bl (decide (k = l))) s2 := cmp_V ha hb rfl
theorem nes_V {k l : Str} (ha : ev C a env s = .ok (.str k) s1) (hb : ev C b env s1 = .ok (.str l) s2) : ev C (.cmp .ne a b) env s = .ok (.bl (!decide (k = l))) s2 := cmp_V ha hb rfl
theorem nei_F {k l : Int} (ha : ev C a env s = .ok (.int k) s1) (hb : ev C b env s1 = .ok (.int l) s2) (h : k = l) : ev C (.cmp .ne a b) env s = .ok (.bl false) s2 := by rw [nei_V ha hb, decide_eq_true h]; rfl
theorem nei_T {k l : Int} (ha : ev C a env s = .ok (.int k) s1) (hb : ev C b env s1 = .ok (.int l) s2) (h : k ≠ l) : ev C (.cmp .ne a b) env s = .ok (.bl true) s2 := by rw [nei_V ha hb, decide_eq_false h]; rfl
theorem eqi_T {k l : Int} (ha : ev C a env s = .ok (.int k) s1) (hb : ev C b env s1 = .ok (.int l) s2) (h : k = l) : ev C (.cmp .eq a b) env s = .ok (.bl true) s2 := by rw [eqi_V ha hb, decide_eq_true h]
theorem eqi_F {k l : Int} (ha : ev C a env s = .ok (.int k) s1) (hb : ev C b env s1 = .ok (.int l) s2) (h : k ≠ l) : ev C (.cmp .eq a b) env s = .ok (.bl false) s2 := by rw [eqi_V ha hb, decide_eq_false h]
theorem eqs_T {k l : Str} (ha : ev C a env s = .ok (.str k) s1) (hb : ev C b env s1 = .ok (.str l) s2) (h : k = l) : ev C (.cmp .eq a b) env s = .ok (.bl true) s2 := by rw [eqs_V ha hb, decide_eq_true h]
theorem eqs_F {k l : Str} (ha : ev C a env s = .ok (.str k) s1) (hb : ev C b env s1 = .ok (.str l) s2) (h : k ≠ l) : ev C (.cmp .eq a b) env s = .ok (.bl false) s2 := by rw [eqs_V ha hb, decide_eq_false h]
theorem nes_T {k l : Str} (ha : ev C a env s = .ok (.str k) s1) (hb : ev C b env s1 = .ok (.str l) s2) (h : k ≠ l) : ev C (.cmp .ne a b) env s = .ok (.bl true) s2 := by rw [nes_V ha hb, decide_eq_false h]; rfl
theorem nes_F {k l : Str} (ha : ev C a env s = .ok (.str k) s1) (hb : ev C b env s1 = .ok (.str l) s2) (h : k = l) : ev C (.cmp .ne a b) env s = .ok (.bl false) s2 := by rw [nes_V ha hb, decide_eq_true h]; rfl
theorem lt_T {k l : Int} (ha : ev C a env s = .ok (.int k) s1) (hb : ev C b env s1 = .ok (.int l) s2) (h : k < l) : ev C (.cmp .lt a b) env s = .ok (.bl true) s2 := by rw [lt_V ha hb, decide_eq_true h]
theorem lt_F {k l : Int} (ha : ev C a env s = .ok (.int k) s1) (hb : ev C b env s1 = .ok (.int l) s2) (h : l ≤ k) : ev C (.cmp .lt a b) env s = .ok (.bl false) s2 := by rw [lt_V ha hb, decide_eq_false (by omega)]
theorem gt_T {k l : Int} (ha : ev C a env s = .ok (.int k) s1) (hb : ev C b env s1 = .ok (.int l) s2) (h : l < k) : ev C (.cmp .gt a b) env s = .ok (.bl true) s2 := by rw [gt_V ha hb, decide_eq_true h]
theorem gt_F {k l : Int} (ha : ev C a env s = .ok (.int k) s1) (hb : ev C b env s1 = .ok (.int l) s2) (h : k ≤ l) : ev C (.cmp .gt a b) env s = .ok (.bl false) s2 := by rw [gt_V ha hb, decide_eq_false (by omega)]
theorem le_T {k l : Int} (ha : ev C a env s = .ok (.int k) s1) (hb : ev C b env s1 = .ok (.int l) s2) (h : k ≤ l) : ev C (.cmp .le a b) env s = .ok (.bl true) s2 := by rw [le_V ha hb, decide_eq_true h]
theorem le_F {k l : Int} (ha : ev C a env s = .ok (.int k) s1) (hb : ev C b env s1 = .ok (.int l) s2) (h : l < k) : ev C (.cmp .le a b) env s = .ok (.bl false) s2 := by rw [le_V ha hb, decide_eq_false (by omega)]
theorem ge_T {k l : Int} (ha : ev C a env s = .ok (.int k) s1) (hb : ev C b env s1 = .ok (.int l) s2) (h : l ≤ k) : ev C (.cmp .ge a b) env s = .ok (.bl true) s2 := by rw [ge_V ha hb, decide_eq_true h]
theorem ge_F {k l : Int} (ha : ev C a env s = .ok (.int k) s1) (hb : ev C b env s1 = .ok (.int l) s2) (h : k < l) : ev C (.cmp .ge a b) env s = .ok (.bl false) s2 := by rw [ge_V ha hb, decide_eq_false (by omega)]
theorem nt_T (h : ev C a env s = .ok (.bl false) s') : ev C (.nt a) env s = .ok (.bl true) s' := nt_V h
theorem nt_F (h : ev C a env s = .ok (.bl true) s') : ev C (.nt a) env s = .ok (.bl false) s' := nt_V h
theorem chain_V {op op' : COp} {u : Bool} (ha : ev C a env s = .ok x s1) (hb : ev C b env s1 = .ok y s2) (h : cmpSem op s2 x y = some t) (hc : ev C c env s2 = .ok z s2) (h2 : cmpSem op' s2 y z = some u) : ev C (.chain op op' a b c) env s = .ok (.bl (t && u)) s2 := by
  rw [ev.eq_13, ha, Res.bind_ok, hb, Res.bind_ok, h, Res.of_some, Res.bind_ok]
  cases t with
  | true =>
    rw [if_pos rfl, hc, Res.bind_ok, h2]
    rfl
  | false => rfl
theorem chle_T {k l m : Int} (ha : ev C a env s = .ok (.int k) s1) (hb : ev C b env s1 = .ok (.int l) s2) (hc : ev C c env s2 = .ok (.int m) s2) (h : k ≤ l) (h2 : l ≤ m) : ev C (.chain .le .le a b c) env s = .ok (.bl true) s2 :=
  chain_V (t := true) (u := true) ha hb (by show some (decide (k ≤ l)) = _; rw [decide_eq_true h]) hc (by show some (decide (l ≤ m)) = _; rw [decide_eq_true h2])
theorem ife_T (h : ev C c env s = .ok (.bl true) s1) (h2 : ev C a env s1 = r) : ev C (.ife c a b) env s = r := by
  rw [ev.eq_14, h, Res.bind_ok, ← h2]
  rfl
theorem ife_F (h : ev C c env s = .ok (.bl false) s1) (h2 : ev C b env s1 = r) : ev C (.ife c a b) env s = r := by
  rw [ev.eq_14, h, Res.bind_ok, ← h2]
  rfl
theorem es0 : evs C .nil env s = .ok [] s := by rw [evs]
theorem es_c {es : IEs} {xs : List PV} (ha : ev C a env s = .ok x s1) (h : evs C es env s1 = .ok xs s2) : evs C (.cons a es) env s = .ok (x :: xs) s2 := by
  rw [evs, ha, Res.bind_ok, h, Res.bind_ok]
theorem es1 (ha : ev C a env s = .ok x s1) : evs C (.cons a .nil) env s = .ok [x] s1 := es_c ha es0
theorem es2 (ha : ev C a env s = .ok x s1) (hb : ev C b env s1 = .ok y s2) : evs C (.cons a (.cons b .nil)) env s = .ok [x, y] s2 := es_c ha (es1 hb)
theorem es3 (ha : ev C a env s = .ok x s1) (hb : ev C b env s1 = .ok y s2) (hc : ev C c env s2 = .ok z s3) : evs C (.cons a (.cons b (.cons c .nil))) env s = .ok [x, y, z] s3 := es_c ha (es2 hb hc)
theorem es4 (ha : ev C a env s = .ok x s1) (hb : ev C b env s1 = .ok y s2) (hc : ev C c env s2 = .ok z s3) (hd : ev C d env s3 = .ok w s4) : evs C (.cons a (.cons b (.cons c (.cons d .nil)))) env s = .ok [x, y, z, w] s4 := es_c ha (es3 hb hc hd)
theorem tup_V {es : IEs} {xs : List PV} (h : evs C es env s = .ok xs s1) (hl : xs.length ≤ 16777216) : ev C (.tup es) env s = .ok (.tup xs) s1 := by
  rw [ev.eq_15, h, Res.bind_ok, if_pos (by rw [line_eq]; exact hl)]
theorem lst_V {es : IEs} {xs : List PV} (h : evs C es env s = .ok xs s1) (hl : xs.length ≤ 16777216) : ev C (.lst false es) env s = .ok (.lst xs) s1 := by
  rw [ev.eq_16, h, Res.bind_ok, if_pos (by rw [line_eq]; exact hl)]
  rfl
theorem lstB_V {es : IEs} {xs : List PV} (h : evs C es env s = .ok xs s1) (hl : xs.length ≤ 16777216) : ev C (.lst true es) env s = .ok (.obj s1.length) (s1 ++ [.lst xs]) := by
  rw [ev.eq_16, h, Res.bind_ok, if_pos (by rw [line_eq]; exact hl)]
  rfl
theorem nilB_V : ev C (.lst true .nil) env s = .ok (.obj s.length) (s ++ [.lst []]) := lstB_V es0 (Nat.zero_le _)
theorem call_V {es : IEs} {xs : List PV} (h : evs C es env s = .ok xs s1) (h2 : C.fn f xs s1 = r) : ev C (.call f es) env s = r := by
  rw [ev.eq_18, h, Res.bind_ok, h2]
theorem call1_V (ha : ev C a env s = .ok x s1) (h : C.fn f [x] s1 = r) : ev C (.call f (.cons a .nil)) env s = r := call_V (es1 ha) h
theorem call2_V (ha : ev C a env s = .ok x s1) (hb : ev C b env s1 = .ok y s2) (h : C.fn f [x, y] s2 = r) : ev C (.call f (.cons a (.cons b .nil))) env s = r := call_V (es2 ha hb) h
theorem call3_V (ha : ev C a env s = .ok x s1) (hb : ev C b env s1 = .ok y s2) (hc : ev C c env s2 = .ok z s3) (h : C.fn f [x, y, z] s3 = r) : ev C (.call f (.cons a (.cons b (.cons c .nil)))) env s = r := call_V (es3 ha hb hc) h
theorem call4_V (ha : ev C a env s = .ok x s1) (hb : ev C b env s1 = .ok y s2) (hc : ev C c env s2 = .ok z s3) (hd : ev C d env s3 = .ok w s4) (h : C.fn f [x, y, z, w] s4 = r) : ev C (.call f (.cons a (.cons b (.cons c (.cons d .nil))))) env s = r := call_V (es4 ha hb hc hd) h
theorem callk_V {es ks : IEs} {o : List Nat} {xs zs ys : List PV} (h : evs C es env s = .ok xs s1) (h1 : evs C ks env s1 = .ok zs s2) (ho : (o.mapM fun i => (xs ++ zs)[i]?) = some ys) (h2 : C.fn f ys s2 = r) : ev C (.callk f es ks o) env s = r := by
  rw [ev.eq_19, h, Res.bind_ok, h1, Res.bind_ok, ho]
  exact h2
theorem caught_X {D c : Str} {vs : List PV} (h : ev C.down a env s = .exc (.exc D vs) s1) (hs : C.sub D c = some true) : ev C (.caught c a) env s = .ok (.exc D vs) s1 := by
  rw [ev.eq_20, h]
  show (match C.sub D c with | some true => Res.ok (PV.exc D vs) s1 | _ => .stk) = _
  rw [hs]
theorem caught_N {c : Str} (h : ev C.down a env s = .ok v s1) : ev C (.caught c a) env s = .ok .non s1 := by
  rw [ev.eq_20, h]
  rfl
theorem addT_V {xs ys : List PV} (ha : ev C a env s = .ok (.tup xs) s1) (hb : ev C b env s1 = .ok (.tup ys) s2) (hl : xs.length + ys.length ≤ 16777216) : ev C (.bin false .add a b) env s = .ok (.tup (xs ++ ys)) s2 := bin_V ha hb (by
  show (if xs.length + ys.length ≤ line then some (PV.tup (xs ++ ys)) else none) = _
  rw [if_pos (by rw [line_eq]; exact hl)])
theorem blt_V {g : Blt} {es : IEs} {xs : List PV} (h : evs C es env s = .ok xs s1) (h2 : bltSem C.sub g s1 xs = some v) : ev C (.blt false g es) env s = .ok v s1 := by
  rw [ev.eq_21, h, Res.bind_ok, h2]
  rfl
theorem blt1_V {g : Blt} (h : ev C a env s = .ok x s1) (h2 : bltSem C.sub g s1 [x] = some v) : ev C (.blt false g (.cons a .nil)) env s = .ok v s1 := blt_V (es1 h) h2
theorem blt2_V {g : Blt} (h : ev C a env s = .ok x s1) (hb : ev C b env s1 = .ok y s2) (h2 : bltSem C.sub g s2 [x, y] = some v) : ev C (.blt false g (.cons a (.cons b .nil))) env s = .ok v s2 := blt_V (es2 h hb) h2
theorem bltB_V {g : Blt} {es : IEs} {xs ys : List PV} (h : evs C es env s = .ok xs s1) (h2 : bltSem C.sub g s1 xs = some (.lst ys)) : ev C (.blt true g es) env s = .ok (.obj s1.length) (s1 ++ [.lst ys]) := by
  rw [ev.eq_21, h, Res.bind_ok, h2]
  rfl
theorem isT_V {T : String} (h : ev C a env s = .ok x s1) (h2 : isTy s1 T x = some t) : ev C (.blt false (.isT T) (.cons a .nil)) env s = .ok (.bl t) s1 := blt1_V h (by
  show (isTy s1 T x).map PV.bl = _
  rw [h2]
  rfl)
theorem isC_V {T : Str} (h : ev C a env s = .ok x s1) (h2 : isCl C.sub s1 T x = some t) : ev C (.blt false (.isC T) (.cons a .nil)) env s = .ok (.bl t) s1 := blt1_V h (by
  show (isCl C.sub s1 T x).map PV.bl = _
  rw [h2]
  rfl)
theorem lenS_V {xs : List PV} (h : ev C a env s = .ok x s1) (hn : ∀ q, x ≠ .str q) (h2 : asSeq s1 x = some xs) : ev C (.blt false .len (.cons a .nil)) env s = .ok (.int (xs.length : Nat)) s1 := blt1_V h (by
  cases x <;> first | exact absurd rfl (hn _) | (simp only [bltSem, h2]))
theorem len_T {xs : List PV} (h : ev C a env s = .ok (.tup xs) s1) : ev C (.blt false .len (.cons a .nil)) env s = .ok (.int (xs.length : Nat)) s1 := blt1_V h rfl
theorem len_L {xs : List PV} (h : ev C a env s = .ok (.lst xs) s1) : ev C (.blt false .len (.cons a .nil)) env s = .ok (.int (xs.length : Nat)) s1 := blt1_V h rfl
theorem idx_V (ha : ev C a env s = .ok x s1) (hb : ev C b env s1 = .ok y s2) (h : idxSem s2 x y = some z) : ev C (.idx a b) env s = .ok z s2 := by
  rw [ev.eq_23, ha, Res.bind_ok, hb, Res.bind_ok, h]
  rfl
theorem sli_V {lo hi : IO} {l h : Option Int} (ha : ev C a env s = .ok x s1) (hl : evo C lo env s1 = .ok l s1) (hh : evo C hi env s1 = .ok h s1) (e : sliSem s1 x l h = some v) : ev C (.sli false a lo hi) env s = .ok v s1 := by
  rw [ev.eq_24, ha, Res.bind_ok, hl, Res.bind_ok, hh, Res.bind_ok, e]
  rfl
theorem o_no : evo C .no env s = .ok none s := by rw [evo]
theorem o_so {k : Int} (h : ev C a env s = .ok (.int k) s1) : evo C (.so a) env s = .ok (some k) s1 := by
  rw [evo, h]
  rfl
/-! ### statements -/
theorem ret_V (h : ev C a env s = .ok v s') : exs C (.cons (.ret a) ss) env s = .rt v s' := by
  rw [exs, ex.eq_10, h]
  rfl
theorem asg_N (h : ev C a env s = .ok v s1) (h2 : exs C ss (env.set i v) s1 = rs) : exs C (.cons (.asg i a) ss) env s = rs := by
  rw [exs, ex.eq_2, h, Res.sr_ok, SR.andThen_nx, h2]
theorem par_N (h : ev C a env s = .ok v s1) (hb : ev C b env s1 = .ok w s2) (h2 : exs C ss ((env.set i v).set j w) s2 = rs) : exs C (.cons (.par i j a b) ss) env s = rs := by
  rw [exs, ex.eq_4, h, Res.sr_ok, hb, Res.sr_ok, SR.andThen_nx, h2]
theorem asgt_N {is : List Nat} (h : ev C a env s = .ok v s1) (hb : bindTg (.many is) v s1 env = some env') (h2 : exs C ss env' s1 = rs) : exs C (.cons (.asgt is a) ss) env s = rs := by
  rw [exs, ex.eq_3, h, Res.sr_ok, hb, SR.andThen_nx, h2]
theorem asgt2_N (h : ev C a env s = .ok (.tup [v, w]) s1) (h2 : exs C ss ((env.set i v).set j w) s1 = rs) : exs C (.cons (.asgt [i, j] a) ss) env s = rs := asgt_N h rfl h2
theorem asgt3_N (h : ev C a env s = .ok (.tup [v, w, z]) s1) (h2 : exs C ss (((env.set i v).set j w).set n z) s1 = rs) : exs C (.cons (.asgt [i, j, n] a) ss) env s = rs := asgt_N h rfl h2
theorem expr_N (h : ev C a env s = .ok v s1) (h2 : exs C ss env s1 = rs) : exs C (.cons (.expr a) ss) env s = rs := by
  rw [exs, ex.eq_1, h, Res.sr_ok, SR.andThen_nx, h2]
theorem expr_X (h : ev C a env s = .exc v s1) : exs C (.cons (.expr a) ss) env s = .exc v env s1 := by
  rw [exs, ex.eq_1, h]
  rfl
theorem pass_N (h2 : exs C ss env s = rs) : exs C (.cons .pass ss) env s = rs := by
  rw [exs, ← h2]
  rfl
theorem ife_Tr (h : ev C c env s = .ok (.bl true) s1) (h2 : ev C e env s1 = .ok v s') : exs C (.cons (.ife c (.cons (.ret e) .nil) tt) ss) env s = .rt v s' := by
  rw [exs, ex.eq_7, h, Res.sr_ok]
  show (exs C (.cons (.ret e) .nil) env s1).andThen _ = _
  rw [ret_V h2]
  rfl
theorem ife_Fn (h : ev C c env s = .ok (.bl false) s1) (h2 : exs C ss env s1 = rs) : exs C (.cons (.ife c tt .nil) ss) env s = rs := by
  rw [exs, ex.eq_7, h, Res.sr_ok]
  show (exs C .nil env s1).andThen _ = _
  rw [exs, SR.andThen_nx, h2]
theorem ifs_T (h : ev C c env s = .ok (.bl true) s1) {ta tb : ISs} (h2 : exs C ta env s1 = .nx env' s2) (h3 : exs C ss env' s2 = rs) : exs C (.cons (.ife c ta tb) ss) env s = rs := by
  rw [exs, ex.eq_7, h, Res.sr_ok]
  show (exs C ta env s1).andThen _ = _
  rw [h2, SR.andThen_nx, h3]
theorem ifs_F (h : ev C c env s = .ok (.bl false) s1) {ta tb : ISs} (h2 : exs C tb env s1 = .nx env' s2) (h3 : exs C ss env' s2 = rs) : exs C (.cons (.ife c ta tb) ss) env s = rs := by
  rw [exs, ex.eq_7, h, Res.sr_ok]
  show (exs C tb env s1).andThen _ = _
  rw [h2, SR.andThen_nx, h3]
/-- a branch that does not go on -/
theorem ifs_Tx (h : ev C c env s = .ok (.bl true) s1) {ta tb : ISs} (h2 : exs C ta env s1 = rs) (h3 : ∀ f, rs.andThen f = rs) : exs C (.cons (.ife c ta tb) ss) env s = rs := by
  rw [exs, ex.eq_7, h, Res.sr_ok]
  show (exs C ta env s1).andThen _ = _
  rw [h2, h3]
theorem ifs_Fx (h : ev C c env s = .ok (.bl false) s1) {ta tb : ISs} (h2 : exs C tb env s1 = rs) (h3 : ∀ f, rs.andThen f = rs) : exs C (.cons (.ife c ta tb) ss) env s = rs := by
  rw [exs, ex.eq_7, h, Res.sr_ok]
  show (exs C tb env s1).andThen _ = _
  rw [h2, h3]
theorem nil_N : exs C .nil env s = .nx env s := by rw [exs]
theorem for_N {tg : Tg} {it : IT} {bd : ISs} {items : List PV} {live : List (Nat × List PV)} (hit : evit C it env s = .ok ⟨items, live⟩ s1) (h : forLoop (bodyF C tg bd) live items env s1 = .nx env' s2) (h2 : exs C ss env' s2 = rs) : exs C (.cons (.for tg it bd) ss) env s = rs := by
  rw [exs, ex_for hit h, SR.andThen_nx, h2]
theorem for_R {tg : Tg} {it : IT} {bd : ISs} {items : List PV} {live : List (Nat × List PV)} (hit : evit C it env s = .ok ⟨items, live⟩ s1) (h : forLoop (bodyF C tg bd) live items env s1 = .rt v s2) : exs C (.cons (.for tg it bd) ss) env s = .rt v s2 := by
  rw [exs, ex_for hit h]
  rfl
theorem raise0_V (hf : (C.fields f).isEmpty = true) : exs C (.cons (.raise f .nil) ss) env s = .exc (.exc f []) env s := by
  rw [exs]
  show (ex C (.raise f .nil) env s).andThen _ = _
  have e : ex C (.raise f .nil) env s = .exc (.exc f []) env s := by
    rw [ex.eq_15, es0, Res.sr_ok, if_pos hf]
  rw [e]
  rfl
theorem append_V {xs : List PV} (ho : ev C a env s = .ok (.obj n) s) (hn : s[n]? = some (.lst xs)) (h : ev C b env s = .ok v s1) (hs : s1[n]? = some (.lst xs)) (hl : xs.length < 16777216) : ev C (.meth .append a (.cons b .nil)) env s = .ok .non (s1.set n (.lst (xs ++ [v]))) := by
  rw [ev.eq_22, ho, Res.bind_ok]
  have hr : recv .append s (.obj n) = true := by
    show (match s[n]? with | some (.lst _) => true | _ => false) = true
    rw [hn]
  rw [if_pos hr, es1 h, Res.bind_ok]
  show mthEnd (match s1[n]? with | some (.lst xs) => if xs.length < line then some (PV.non, s1.set n (.lst (xs ++ [v]))) else none | _ => none) = _
  rw [hs]
  dsimp only
  rw [if_pos (by rw [line_eq]; exact hl)]
  rfl
/-! ### what is walked -/
theorem it_T {xs : List PV} (h : ev C a env s = .ok (.tup xs) s1) : evit C (.val a) env s = .ok ⟨xs, []⟩ s1 := by
  rw [evit, h]
  rfl
theorem it_L {xs : List PV} (h : ev C a env s = .ok (.lst xs) s1) : evit C (.val a) env s = .ok ⟨xs, []⟩ s1 := by
  rw [evit, h]
  rfl
theorem it_W {xs : List PV} (h : ev C a env s = .ok (.wl xs) s1) : evit C (.val a) env s = .ok ⟨xs, []⟩ s1 := by
  rw [evit, h]
  rfl
theorem it_O {xs : List PV} (h : ev C a env s = .ok (.obj n) s1) (e : s1[n]? = some (.lst xs)) : evit C (.val a) env s = .ok ⟨xs, [(n, xs)]⟩ s1 := by
  rw [evit, h, Res.bind_ok]
  show (match asSeq s1 (.obj n) with | some xs => Res.ok (ItV.mk xs (liveOf (.obj n) xs)) s1 | none => .stk) = _
  have : asSeq s1 (.obj n) = some xs := by
    show (match s1[n]? with | some (.lst xs) => some xs | _ => none) = _
    rw [e]
  rw [this]
  rfl
theorem it_R {m : Nat} (h : ev C a env s = .ok (.int (m : Int)) s1) (hm : m < 2 ^ 62) : evit C (.rng1 a) env s = .ok ⟨(List.range m).map fun (k : Nat) => .int (k : Int), []⟩ s1 := by
  rw [evit, h, Res.bind_ok]
  dsimp only
  have e : small62 (m : Int) = true := by
    unfold small62
    rw [decide_eq_true_eq]
    omega
  rw [if_pos e]
  unfold intRange
  have q : (List.range ((m : Int) - 0).toNat).map (fun (k : Nat) => PV.int (0 + (k : Int))) = (List.range m).map fun (k : Nat) => PV.int (k : Int) := by
    rw [Int.sub_zero, Int.toNat_natCast]
    exact List.map_congr_left fun k _ => by rw [Int.zero_add]
  rw [q]
theorem it_E {xs : List PV} (h : ev C a env s = .ok (.tup xs) s1) : evit C (.enum a) env s = .ok ⟨xs.zipIdx.map fun p => .tup [.int (p.2 : Nat), p.1], []⟩ s1 := by
  rw [evit, h]
  rfl
theorem it_EL {xs : List PV} (h : ev C a env s = .ok (.lst xs) s1) : evit C (.enum a) env s = .ok ⟨xs.zipIdx.map fun p => .tup [.int (p.2 : Nat), p.1], []⟩ s1 := by
  rw [evit, h]
  rfl
theorem it_Z {xs ys : List PV} (h : ev C a env s = .ok (.lst xs) s1) (h2 : ev C b env s1 = .ok (.lst ys) s2) : evit C (.zip a b) env s = .ok ⟨(xs.zip ys).map fun p => .tup [p.1, p.2], []⟩ s2 := by
  rw [evit, h, Res.bind_ok, h2]
  rfl
/-! ### calls -/
theorem fn_rt {T : Tx} {k : Nat} {f : Str} {d : FnI} {vs : List PV} {s : Store} {v : PV} (hf : T.fn f = some d) (hl : vs.length = d.params) (hv : v.inb s.length = true) (e : exs (callsOf T k) d.body (vs ++ List.replicate (d.slots - d.params) .und) s = .rt v s) : (callsOf T (k + 1)).fn f vs s = .ok v s := call_pure hf hl hv e
/-- new things behind: gone again -/
theorem call_app {T : Tx} {k : Nat} {f : Str} {d : FnI} {vs : List PV} {s B : Store} {v : PV} (hf : T.fn f = some d) (hl : vs.length = d.params) (hv : v.inb s.length = true) (e : exs (callsOf T k) d.body (vs ++ List.replicate (d.slots - d.params) .und) s = .rt v (s ++ B)) : callF T (k + 1) f vs s = .ok v s := by
  rw [call_rt hf hl e]
  exact hb_same hv (by rw [List.take_left])
/-- a list that was made is handed back -/
theorem call_lst {T : Tx} {k : Nat} {f : Str} {d : FnI} {vs : List PV} {s B : Store} {n : Nat} {xs : List PV} (hf : T.fn f = some d) (hl : vs.length = d.params) (hn : s.length ≤ n) (hx : (s ++ B)[n]? = some (.lst xs)) (hv : PV.inbs s.length xs = true) (e : exs (callsOf T k) d.body (vs ++ List.replicate (d.slots - d.params) .und) s = .rt (.obj n) (s ++ B)) : callF T (k + 1) f vs s = .ok (.lst xs) s := by
  rw [call_rt hf hl e]
  have hi : PV.inb s.length (.obj n) = false := by
    show decide (n < s.length) = false
    rw [decide_eq_false (by omega)]
  have fx : ∀ ys : List PV, PV.inbs s.length ys = true → ys.mapM (freeze s.length (s ++ B) 2) = some ys := by
    intro ys
    induction ys with
    | nil => intro _; rfl
    | cons y ys ih =>
      intro h
      rw [inbs_cons, Bool.and_eq_true] at h
      rw [List.mapM_cons, freeze_in h.1, ih h.2]
      rfl
  have fz : freeze s.length (s ++ B) 3 (.obj n) = some (.lst xs) := by
    unfold freeze
    rw [hi, if_neg Bool.false_ne_true]
    dsimp only
    rw [hx]
    dsimp only
    rw [fx xs hv]
    rfl
  unfold handBack
  rw [fz]
  dsimp only
  rw [List.take_left, if_pos (beqSt_rfl _)]
theorem downfn {T : Tx} (k : Nat) : (callsOf T (k + 1)).down.fn = callF T k := rfl
theorem at_new {s : Store} {x : SO} {B : Store} : (s ++ x :: B)[s.length]? = some x := by
  rw [List.getElem?_append_right (Nat.le_refl _), Nat.sub_self]
  rfl
theorem set_new {s : Store} {x y : SO} {B : Store} : (s ++ x :: B).set s.length y = s ++ y :: B := by
  rw [List.set_append_right _ _ (Nat.le_refl _), Nat.sub_self]
  rfl
end
end MP

/-! Plain data: comparisons, texts. -/
namespace MP
open PySem L2 TL
mutual
def toD : PV → PyData
  | .bl b => .bool b
  | .int i => .int i
  | .str z => .str z
  | .tup xs => .tuple (toDs xs)
  | .lst xs => .list (toDs xs)
  | .wl xs => .list (toDs xs)
  | _ => .none
def toDs : List PV → List PyData
  | [] => []
  | x :: xs => toD x :: toDs xs
end
theorem toDs_map : ∀ xs, toDs xs = xs.map toD
  | [] => rfl
  | x :: xs => by rw [toDs, toDs_map xs]; rfl
def okS (z : Str) : Bool := decide (z.cps.size ≤ 60) && z.cps.toList.all fun c => decide (c < 1000)
/-- plain data, at most so deep, of numbers that have a text -/
def plN : Nat → PV → Bool
  | _, .non => true
  | _, .bl _ => true
  | _, .int i => decide (i.natAbs.log2 < 1900)
  | _, .str z => okS z
  | n + 1, .tup xs => xs.all (plN n)
  | n + 1, .lst xs => xs.all (plN n)
  | n + 1, .wl xs => xs.all (plN n)
  | _, _ => false
theorem pl_int {n : Nat} {i : Int} (h : i.natAbs.log2 < 1900) : plN n (.int i) = true := by
  cases n <;> exact decide_eq_true h
theorem pl_bl {n : Nat} {b : Bool} : plN n (.bl b) = true := by cases n <;> rfl
theorem pl_non {n : Nat} : plN n .non = true := by cases n <;> rfl
theorem pl_str {n : Nat} {z : Str} (h : okS z = true) : plN n (.str z) = true := by cases n <;> exact h
theorem pl_tup {n : Nat} {xs : List PV} (h : ∀ x ∈ xs, plN n x = true) : plN (n + 1) (.tup xs) = true := List.all_eq_true.mpr h
theorem pl_lst {n : Nat} {xs : List PV} (h : ∀ x ∈ xs, plN n x = true) : plN (n + 1) (.lst xs) = true := List.all_eq_true.mpr h
theorem plN_mono : ∀ {n : Nat} {v : PV}, plN n v = true → plN (n + 1) v = true := by
  intro n
  induction n with
  | zero =>
    intro v h
    cases v <;> first | exact h | exact absurd h Bool.false_ne_true
  | succ n ih =>
    intro v h
    cases v <;> first | exact h | exact absurd h Bool.false_ne_true | skip
    all_goals exact List.all_eq_true.mpr fun x hx => ih (List.all_eq_true.mp h x hx)
theorem plN_le {n m : Nat} {v : PV} (h : plN n v = true) (l : n ≤ m) : plN m v = true := by
  induction m with
  | zero => obtain rfl : n = 0 := by omega
            exact h
  | succ m ih =>
    by_cases q : n = m + 1
    · rw [← q]; exact h
    · exact plN_mono (ih (by omega))
theorem pl_inb : ∀ {n : Nat} {v : PV} (k : Nat), plN n v = true → PV.inb k v = true := by
  intro n
  induction n with
  | zero =>
    intro v k h
    cases v <;> first | (simp [PV.inb]; done) | exact absurd h Bool.false_ne_true
  | succ n ih =>
    intro v k h
    cases v <;> first | (simp [PV.inb]; done) | exact absurd h Bool.false_ne_true | skip
    all_goals
      rw [PV.inb, inbs_all]
      exact List.all_eq_true.mpr fun x hx => ih k (List.all_eq_true.mp h x hx)
theorem pl_inbs {n k : Nat} {xs : List PV} (h : ∀ x ∈ xs, plN n x = true) : PV.inbs k xs = true := by
  rw [inbs_all]
  exact List.all_eq_true.mpr fun x hx => pl_inb k (h x hx)
theorem dats_of {s : Store} : ∀ {xs : List PV}, (∀ x ∈ xs, dat s x = some (toD x)) → dats s xs = some (toDs xs)
  | [], _ => by simp only [dats, toDs]
  | x :: xs, h => by
    rw [dats, h x List.mem_cons_self, dats_of fun y hy => h y (List.mem_cons_of_mem _ hy), toDs]
theorem pl_dat {s : Store} : ∀ {n : Nat} {v : PV}, plN n v = true → dat s v = some (toD v) := by
  intro n
  induction n with
  | zero =>
    intro v h
    cases v <;> first | (simp only [dat, toD]; done) | exact absurd h Bool.false_ne_true
  | succ n ih =>
    intro v h
    cases v <;> first | (simp only [dat, toD]; done) | exact absurd h Bool.false_ne_true | skip
    all_goals
      rw [dat, toD, dats_of fun x hx => ih (List.all_eq_true.mp h x hx)]
      rfl
theorem pl_dats {s : Store} {n : Nat} {xs : List PV} (h : ∀ x ∈ xs, plN n x = true) : dats s xs = some (toDs xs) := dats_of fun x hx => pl_dat (h x hx)
structure Shp (n : Nat) (d : PyData) : Prop where
  lay : d.canLay0 = true
  dep : d.depth ≤ n
  shw : d.showable = true
  lea : d.leavesShort 2000 = true
  nod : d.hasDict = false
structure Shps (n : Nat) (d : List PyData) : Prop where
  lay : PyData.canLayAll0 d = true
  dep : PyData.depthAll d ≤ n
  shw : PyData.showableAll d = true
  lea : PyData.leavesShortAll 2000 d = true
  nod : PyData.hasDictAll d = false
theorem Shps.of {n : Nat} : ∀ {xs : List PV}, (∀ x ∈ xs, Shp n (toD x)) → Shps n (toDs xs)
  | [], _ => by
    rw [toDs]
    exact ⟨by simp [PyData.canLayAll0], by simp [PyData.depthAll], by simp [PyData.showableAll], by simp [PyData.leavesShortAll], by simp [PyData.hasDictAll]⟩
  | x :: xs, h => by
    have a := h x List.mem_cons_self
    have b := Shps.of fun y hy => h y (List.mem_cons_of_mem _ hy)
    rw [toDs]
    exact ⟨by rw [PyData.canLayAll0, a.lay, b.lay]; rfl, by rw [PyData.depthAll]; have := a.dep; have := b.dep; omega, by rw [PyData.showableAll, a.shw, b.shw]; rfl, by rw [PyData.leavesShortAll, a.lea, b.lea]; rfl, by rw [PyData.hasDictAll, a.nod, b.nod]; rfl⟩
theorem Shps.list {n : Nat} {ds : List PyData} (b : Shps n ds) : Shp (n + 1) (.list ds) :=
  ⟨by rw [PyData.canLay0]; exact b.lay, by rw [PyData.depth]; have := b.dep; omega, by rw [PyData.showable]; exact b.shw, by rw [PyData.leavesShort]; exact b.lea, by rw [PyData.hasDict]; exact b.nod⟩
theorem Shps.tuple {n : Nat} {ds : List PyData} (b : Shps n ds) : Shp (n + 1) (.tuple ds) :=
  ⟨by rw [PyData.canLay0]; exact b.lay, by rw [PyData.depth]; have := b.dep; omega, by rw [PyData.showable]; exact b.shw, by rw [PyData.leavesShort]; exact b.lea, by rw [PyData.hasDict]; exact b.nod⟩
theorem shp_int {n : Nat} {i : Int} (h : i.natAbs.log2 < 1900) : Shp n (.int i) :=
  ⟨by simp [PyData.canLay0], by simp [PyData.depth], by simp [PyData.showable]; omega, by
    simp only [PyData.leavesShort]
    exact decide_eq_true (Nat.le_trans (PyProof.Rows.int_text_len_1921 (i := i) (by omega)) (show 1921 ≤ 2000 by decide)), by simp [PyData.hasDict]⟩
theorem shp_str {n : Nat} {z : Str} (h : okS z = true) : Shp n (.str z) := by
  have h2 := (Bool.and_eq_true_iff.mp h).2
  have h3 : ∀ c ∈ z.cps.toList, c < 1000 := fun c hc => of_decide_eq_true (List.all_eq_true.mp h2 c hc)
  refine ⟨?_, by simp [PyData.depth], by simp [PyData.showable], ?_, by simp [PyData.hasDict]⟩
  · rw [PyData.canLay0]
    unfold PyData.strOk
    rw [← Array.all_toList]
    exact List.all_eq_true.mpr fun c hc => decide_eq_true (Nat.lt_trans (h3 c hc) (by decide))
  · rw [PyData.leavesShort]
    exact List.all_eq_true.mpr fun c hc => decide_eq_true (Nat.lt_trans (h3 c hc) (by decide))
theorem pl_shp : ∀ {n : Nat} {v : PV}, plN n v = true → Shp n (toD v) := by
  intro n
  induction n with
  | zero =>
    intro v h
    cases v <;> first | exact absurd h Bool.false_ne_true | skip
    · rw [toD]; exact ⟨by simp [PyData.canLay0], by simp [PyData.depth], by simp [PyData.showable], by simp [PyData.leavesShort], by simp [PyData.hasDict]⟩
      all_goals (intro _ z; cases z)
    · rw [toD]; exact ⟨by simp [PyData.canLay0], by simp [PyData.depth], by simp [PyData.showable], by simp [PyData.leavesShort], by simp [PyData.hasDict]⟩
    · rw [toD]; exact shp_int (of_decide_eq_true h)
    · rw [toD]; exact shp_str h
  | succ n ih =>
    intro v h
    cases v <;> first | exact absurd h Bool.false_ne_true | skip
    · rw [toD]; exact ⟨by simp [PyData.canLay0], by simp [PyData.depth], by simp [PyData.showable], by simp [PyData.leavesShort], by simp [PyData.hasDict]⟩
      all_goals (intro _ z; cases z)
    · rw [toD]; exact ⟨by simp [PyData.canLay0], by simp [PyData.depth], by simp [PyData.showable], by simp [PyData.leavesShort], by simp [PyData.hasDict]⟩
    · rw [toD]; exact shp_int (of_decide_eq_true h)
    · rw [toD]; exact shp_str h
    · rw [toD]; exact (Shps.of fun x hx => ih (List.all_eq_true.mp h x hx)).tuple
    · rw [toD]; exact (Shps.of fun x hx => ih (List.all_eq_true.mp h x hx)).list
    · rw [toD]; exact (Shps.of fun x hx => ih (List.all_eq_true.mp h x hx)).list
theorem shp_shaped {n : Nat} {d : PyData} (h : Shp n d) (hn : n ≤ 64) : SeqAt.shaped d = true := by
  unfold SeqAt.shaped
  rw [h.lay, decide_eq_true (Nat.le_trans h.dep hn)]
  rfl
theorem dat_datO {s : Store} {v : PV} {d : PyData} (h : dat s v = some d) : datO s v = some d := by
  cases v <;> first | exact h | (simp [dat] at h)
theorem eqvD_pl {s : Store} {n : Nat} {x y : PV} (hx : plN n x = true) (hy : plN n y = true) (hn : n ≤ 64) : eqvD s x y = some (PyData.eqv (toD x) (toD y)) := by
  unfold eqvD
  rw [dat_datO (pl_dat hx), dat_datO (pl_dat hy)]
  dsimp only
  rw [shp_shaped (pl_shp hx) hn, shp_shaped (pl_shp hy) hn]
  rfl
/-- == of plain data -/
theorem eqv_pl {s : Store} {n : Nat} {x y : PV} (hx : plN n x = true) (hy : plN n y = true) (hn : n ≤ 64) : eqv s x y = some (PyData.eqv (toD x) (toD y)) := by
  unfold eqv
  split
  · rename_i i j
    rw [toD, toD, PyData.eqv]
    congr 1
  · rename_i i j
    rw [toD, toD, PyData.eqv]
    congr 1
  · exact eqvD_pl hx hy hn
theorem eqvAll_rfl : ∀ {ds : List PyData}, (∀ d ∈ ds, PyData.eqv d d = true) → PyData.eqvAll ds ds = true
  | [], _ => by simp [PyData.eqvAll]
  | d :: ds, h => by rw [PyData.eqvAll, h d List.mem_cons_self, eqvAll_rfl fun e he => h e (List.mem_cons_of_mem _ he)]; rfl
theorem eqv_rfl : ∀ {n : Nat} {v : PV}, plN n v = true → PyData.eqv (toD v) (toD v) = true := by
  intro n
  induction n with
  | zero =>
    intro v h
    cases v <;> first | exact absurd h Bool.false_ne_true | simp [toD, PyData.eqv]
  | succ n ih =>
    intro v h
    cases v <;> first | exact absurd h Bool.false_ne_true | (simp [toD, PyData.eqv]; done) | skip
    all_goals
      rw [toD, PyData.eqv, toDs_map]
      refine eqvAll_rfl fun d hd => ?_
      obtain ⟨x, hx, rfl⟩ := List.mem_map.mp hd
      exact ih (List.all_eq_true.mp h x hx)
theorem cmp_eqv (s : Store) (x y : PV) : cmpSem .eq s x y = eqv s x y := by rfl
theorem cmp_nev (s : Store) (x y : PV) : cmpSem .ne s x y = (eqv s x y).map (!·) := by rfl
theorem eq_same {s : Store} {n : Nat} {x : PV} (hx : plN n x = true) (hn : n ≤ 64) : cmpSem .eq s x x = some true := by
  rw [cmp_eqv]
  rw [eqv_pl hx hx hn, eqv_rfl hx]
theorem ne_same {s : Store} {n : Nat} {x : PV} (hx : plN n x = true) (hn : n ≤ 64) : cmpSem .ne s x x = some false := by
  rw [cmp_nev]
  rw [eqv_pl hx hx hn, eqv_rfl hx]
  rfl
/-- x == (), x == [] -/
theorem eq_nilT {s : Store} {n : Nat} {x : PV} {xs : List PV} (hx : ∀ y ∈ x :: xs, plN n y = true) (hn : n < 64) : cmpSem .eq s (.tup (x :: xs)) (.tup []) = some false := by
  rw [cmp_eqv]
  rw [eqv_pl (n := n + 1) (pl_tup hx) (pl_tup (by intro y hy; cases hy)) (by omega)]
  simp [toD, toDs, PyData.eqv, PyData.eqvAll]
theorem eq_nilTT {s : Store} : cmpSem .eq s (.tup []) (.tup []) = some true := by rfl
/-- repr -/
theorem repr_pl {sub : Str → Str → Option Bool} {s : Store} {n : Nat} {x : PV} (hx : plN n x = true) (hn : n ≤ 60) (hd : isDisp (toD x) = true) (hb : (toD x).bulk ≤ 2000) : bltSem sub .repr1 s [x] = some (.str (toD x).shown) := by
  have q := pl_shp hx
  have h6 : (toD x).shown.length ≤ line := by
    have := PyData.shown_le_bulk 2000 (by decide) _ q.lea
    have e : (2000 + 2) * (toD x).bulk ≤ (2000 + 2) * 2000 := Nat.mul_le_mul_left _ hb
    rw [line_eq]
    omega
  show (match datO s x with
    | some d => if isDisp d && d.showable && !d.hasDict && decide (d.depth ≤ 60) && decide (d.shown.length ≤ line) then some (PV.str d.shown) else none
    | none => none) = _
  rw [dat_datO (pl_dat hx)]
  dsimp only
  rw [if_pos (by rw [hd, q.shw, q.nod, decide_eq_true (Nat.le_trans q.dep hn), decide_eq_true h6]; rfl)]
/-- lists of whole numbers -/
theorem eqvAll_ints : ∀ (a b : List Int), PyData.eqvAll (a.map .int) (b.map .int) = decide (a = b)
  | [], [] => by simp [PyData.eqvAll]
  | [], _ :: _ => by simp [PyData.eqvAll]
  | _ :: _, [] => by simp [PyData.eqvAll]
  | x :: a, y :: b => by
    rw [List.map_cons, List.map_cons, PyData.eqvAll, eqvAll_ints a b, PyData.eqv]
    by_cases h : x = y <;> by_cases h2 : a = b <;> simp [h, h2]
theorem toDs_ints (a : List Int) : toDs (a.map .int) = a.map .int := by
  rw [toDs_map, List.map_map]
  exact List.map_congr_left fun x _ => by simp only [Function.comp, toD]
theorem pl_ints {n : Nat} {a : List Int} (h : ∀ i ∈ a, i.natAbs.log2 < 1900) : ∀ x ∈ a.map PV.int, plN n x = true := fun x hx => by
  obtain ⟨i, hi, rfl⟩ := List.mem_map.mp hx
  exact pl_int (h i hi)
theorem eq_ints {s : Store} {a b : List Int} (ha : ∀ i ∈ a, i.natAbs.log2 < 1900) (hb : ∀ i ∈ b, i.natAbs.log2 < 1900) : cmpSem .eq s (.lst (a.map .int)) (.lst (b.map .int)) = some (decide (a = b)) := by
  rw [cmp_eqv]
  rw [eqv_pl (n := 1) (pl_lst (pl_ints ha)) (pl_lst (pl_ints hb)) (by decide), toD, toD, PyData.eqv, toDs_ints, toDs_ints, eqvAll_ints]
theorem ints_of : ∀ l : List Int, ints? (l.map .int) = some l
  | [] => rfl
  | x :: l => by
    show (ints? (l.map .int)).map (x :: ·) = _
    rw [ints_of l]
    rfl
theorem onceI_nd : ∀ {l : List Int}, l.Nodup → onceI l = l
  | [], _ => rfl
  | x :: xs, h => by
    have ⟨a, b⟩ := List.nodup_cons.mp h
    unfold onceI
    rw [if_neg a, onceI_nd b]
theorem sortI_srt {l : List Int} (h : l.Pairwise (· ≤ ·)) : sortI l = l := (sortI_eq (.refl _) h).symm
/-- a loop that changes its own name alone -/
theorem for_last {F : PV → Env → Store → SR} {i : Nat} {s : Store} {env : Env} : ∀ {items : List PV} (z : PV), (∀ x ∈ items, ∀ y, F x (env.set i y) s = .nx (env.set i x) s) → ∃ y, forLoop F [] items (env.set i z) s = .nx (env.set i y) s
  | [], z, _ => ⟨z, for_nil rfl⟩
  | x :: r, z, h => by
    obtain ⟨y, e⟩ := for_last (items := r) x fun w hw => h w (List.mem_cons_of_mem _ hw)
    exact ⟨y, (for_nx rfl (h x List.mem_cons_self z)).trans e⟩
theorem nset_ints {sub : Str → Str → Option Bool} {s : Store} {x : PV} {l : List Int} (h : asSeq s x = some (l.map .int)) (hl : l.length ≤ 2000) : bltSem sub .nset1 s [x] = some (.int (onceI l).length) := by
  show ((asSeq s x).bind fun xs => (ints? xs).bind fun l => if l.length ≤ 2000 then some (PV.int (onceI l).length) else none) = _
  rw [h, Option.bind_some, ints_of, Option.bind_some, if_pos hl]
theorem ssort_ints {sub : Str → Str → Option Bool} {s : Store} {x : PV} {l : List Int} (h : asSeq s x = some (l.map .int)) (hl : l.length < 64) : bltSem sub .ssort1 s [x] = some (.lst ((sortI (onceI l)).map .int)) := by
  show ((asSeq s x).bind fun xs => (ints? xs).bind fun l => if l.length ≤ 2000 ∧ (onceI l).length < 64 then some (PV.lst ((sortI (onceI l)).map .int)) else none) = _
  rw [h, Option.bind_some, ints_of, Option.bind_some, if_pos ⟨by omega, Nat.lt_of_le_of_lt (onceI_len l) hl⟩]
theorem sort_ints {sub : Str → Str → Option Bool} {s : Store} {x : PV} {l : List Int} (h : asSeq s x = some (l.map .int)) : bltSem sub .sorted1 s [x] = some (.lst ((sortI l).map .int)) := by
  show ((asSeq s x).bind fun xs => (ints? xs).map fun l => PV.lst ((sortI l).map .int)) = _
  rw [h, Option.bind_some, ints_of, Option.map_some]
theorem ev_compX {α : Type} {C : Calls} {elt : IE} {tg : Tg} {own : List Nat} {it : IT} {env : Env} {s : Store} {live : List (Nat × List PV)} {h g : α → PV} {bx : Bool} (l : List α) (hit : evit C it env s = .ok ⟨l.map h, live⟩ s) (hl : liveOk s live = true) (hz : l.length ≤ 16777216)
    (hf : ∀ c ∈ l, ∃ env', bindTg tg (h c) s (own.foldl (fun e i => e.set i .und) env) = some env' ∧ ev C elt env' s = .ok (g c) s) : ev C (.comp bx elt tg own it .no) env s = mkL bx (.lst (l.map g)) s := by
  rw [ev.eq_26, hit]
  dsimp only [Res.bind_ok]
  rw [comp_map hl l [] (fun c hc => by
    obtain ⟨env', e1, e2⟩ := hf c hc
    unfold compF
    rw [e1]
    dsimp only [Res.bind_ok]
    rw [if_pos rfl, e2]
    rfl) (by rw [line_eq]; simpa using hz)]
  rfl
theorem atI_n {α : Type} {xs : List α} {v : Nat} (h : v < xs.length) : atI xs (v : Int) = some xs[v] := by
  unfold atI ixN
  rw [if_pos (by omega), if_pos (by omega)]
  simp [h]
/-- an item of a row of the store -/
theorem idx_O {st : Store} {n c : Nat} {xs : List PV} {v : PV} (h : st[n]? = some (.lst xs)) (hc : xs[c]? = some v) : idxSem st (.obj n) (.int (c : Nat)) = some v := by
  have hl := (List.getElem?_eq_some_iff.mp hc).1
  show (match st[n]? with
    | some (.lst xs) => atI xs (c : Int)
    | some (.dct kvs) => dgetK kvs (.inl (c : Int))
    | none => none) = _
  rw [h]
  dsimp only
  rw [atI_n hl, ← hc, List.getElem?_eq_getElem hl]
theorem idx_Ln {s : Store} {c : Nat} {xs : List PV} {v : PV} (hc : xs[c]? = some v) : idxSem s (.lst xs) (.int (c : Nat)) = some v := by
  have hl := (List.getElem?_eq_some_iff.mp hc).1
  show atI xs (c : Int) = _
  rw [atI_n hl, ← hc, List.getElem?_eq_getElem hl]
theorem idx_Tn {s : Store} {c : Nat} {xs : List PV} {v : PV} (hc : xs[c]? = some v) : idxSem s (.tup xs) (.int (c : Nat)) = some v := by
  have hl := (List.getElem?_eq_some_iff.mp hc).1
  show atI xs (c : Int) = _
  rw [atI_n hl, ← hc, List.getElem?_eq_getElem hl]
theorem getD_at {l : List Nat} {c : Nat} (h : c < l.length) : l[c]? = some (l.getD c 0) := by
  rw [List.getD_eq_getElem?_getD, List.getElem?_eq_getElem h]
  rfl
theorem mulL_ok {s : Store} {xs : List PV} {k : Nat} (hz : xs.length * k ≤ 16777216) (hk : k < 2 ^ 62) : binSem .mul s (.lst xs) (.int (k : Nat)) = some (.lst (List.replicate k xs).flatten) := by
  have h1 : (-(2 ^ 63) : Int) ≤ (k : Int) := by omega
  have h2 : (k : Int) < 2 ^ 63 := by omega
  have h3 : xs.length * ((k : Int)).toNat ≤ line := by
    rw [Int.toNat_natCast]
    exact Nat.le_trans hz (Nat.le_of_eq line_eq.symm)
  have e : binSem .mul s (.lst xs) (.int (k : Nat)) = if -(2 ^ 63) ≤ (k : Int) ∧ (k : Int) < 2 ^ 63 ∧ xs.length * (k : Int).toNat ≤ line then some (PV.lst (List.replicate (k : Int).toNat xs).flatten) else none := by rfl
  rw [e, if_pos (And.intro h1 (And.intro h2 h3)), Int.toNat_natCast]
theorem mulL_V {C : Calls} {a b : IE} {env : Env} {s s1 s2 : Store} {xs : List PV} {k : Nat} (ha : ev C a env s = .ok (.lst xs) s1) (hb : ev C b env s1 = .ok (.int (k : Nat)) s2) (hz : xs.length * k ≤ 16777216) (hk : k < 2 ^ 62) : ev C (.bin false .mul a b) env s = .ok (.lst (List.replicate k xs).flatten) s2 :=
  bin_V ha hb (by
    exact mulL_ok hz hk)
theorem mulLB_V {C : Calls} {a b : IE} {env : Env} {s s1 s2 : Store} {xs : List PV} {k : Nat} (ha : ev C a env s = .ok (.lst xs) s1) (hb : ev C b env s1 = .ok (.int (k : Nat)) s2) (hz : xs.length * k ≤ 16777216) (hk : k < 2 ^ 62) : ev C (.bin true .mul a b) env s = .ok (.obj s2.length) (s2 ++ [.lst (List.replicate k xs).flatten]) := by
  rw [ev.eq_7, ha, Res.bind_ok, hb, Res.bind_ok]
  have e : binSem .mul s2 (.lst xs) (.int (k : Nat)) = some (.lst (List.replicate k xs).flatten) := by
    exact mulL_ok hz hk
  rw [e]
  rfl
theorem sum_V {C : Calls} {a : IE} {env : Env} {s s1 : Store} {l : List Int} (h : ev C a env s = .ok (.lst (l.map .int)) s1) : ev C (.blt false .sum1 (.cons a .nil)) env s = .ok (.int l.sum) s1 := blt1_V h (by
  show (ints? (l.map .int)).map (fun l => PV.int l.sum) = _
  rw [ints_of]
  rfl)
theorem max_V {C : Calls} {a : IE} {env : Env} {s s1 : Store} {x : Int} {l : List Int} (h : ev C a env s = .ok (.lst ((x :: l).map .int)) s1) : ev C (.blt false .max1 (.cons a .nil)) env s = .ok (.int (l.foldl max x)) s1 := blt1_V h (by
  show (ints? ((x :: l).map PV.int)).bind (fun l => (maxI l).map PV.int) = _
  rw [ints_of]
  rfl)
theorem rep_one {α : Type} (x : α) : ∀ k : Nat, (List.replicate k [x]).flatten = List.replicate k x
  | 0 => rfl
  | k + 1 => by rw [List.replicate_succ, List.flatten_cons, rep_one x k]; rfl
/-- a value and a list that was made are handed back -/
theorem call_tl {T : Tx} {k : Nat} {f : Str} {d : FnI} {vs : List PV} {s B : Store} {n : Nat} {xs : List PV} {u : PV} (hf : T.fn f = some d) (hl : vs.length = d.params) (hu : PV.inb s.length u = true) (hn : s.length ≤ n) (hx : (s ++ B)[n]? = some (.lst xs)) (hv : PV.inbs s.length xs = true) (e : exs (callsOf T k) d.body (vs ++ List.replicate (d.slots - d.params) .und) s = .rt (.tup [u, .obj n]) (s ++ B)) : callF T (k + 1) f vs s = .ok (.tup [u, .lst xs]) s := by
  rw [call_rt hf hl e]
  have hi : PV.inb s.length (.obj n) = false := by
    show decide (n < s.length) = false
    rw [decide_eq_false (by omega)]
  have hi2 : PV.inb s.length (.tup [u, .obj n]) = false := by
    rw [PV.inb, inbs_cons, inbs_cons, hi, Bool.false_and, Bool.and_false]
  have fx : ∀ ys : List PV, PV.inbs s.length ys = true → ys.mapM (freeze s.length (s ++ B) 1) = some ys := by
    intro ys
    induction ys with
    | nil => intro _; rfl
    | cons y ys ih =>
      intro h
      rw [inbs_cons, Bool.and_eq_true] at h
      rw [List.mapM_cons, freeze_in h.1, ih h.2]
      rfl
  have f2 : freeze s.length (s ++ B) 2 (.obj n) = some (.lst xs) := by
    unfold freeze
    rw [hi, if_neg Bool.false_ne_true]
    dsimp only
    rw [hx]
    dsimp only
    rw [fx xs hv]
    rfl
  have f3 : freeze s.length (s ++ B) 3 (.tup [u, .obj n]) = some (.tup [u, .lst xs]) := by
    unfold freeze
    rw [hi2, if_neg Bool.false_ne_true]
    dsimp only
    rw [List.mapM_cons, freeze_in hu, List.mapM_cons, f2]
    rfl
  unfold handBack
  rw [f3]
  dsimp only
  rw [List.take_left, if_pos (beqSt_rfl _)]
/-- a def that ends without return -/
theorem call_nx {T : Tx} {k : Nat} {f : Str} {d : FnI} {vs : List PV} {s : Store} {env : Env} (hf : T.fn f = some d) (hl : vs.length = d.params) (e : exs (callsOf T k) d.body (vs ++ List.replicate (d.slots - d.params) .und) s = .nx env s) : callF T (k + 1) f vs s = .ok .non s := by
  rw [callF_succ]
  unfold call1
  rw [hf]
  dsimp only
  rw [if_pos hl, e]
  exact hb_same (inb_non _) (take_len _)
theorem call_excB {T : Tx} {k : Nat} {f : Str} {d : FnI} {vs : List PV} {s B : Store} {v : PV} {env : Env} (hf : T.fn f = some d) (hl : vs.length = d.params) (hv : v.inb s.length = true) (e : exs (callsOf T k) d.body (vs ++ List.replicate (d.slots - d.params) .und) s = .exc v env (s ++ B)) : callF T (k + 1) f vs s = .exc v s := by
  rw [callF_succ]
  unfold call1
  rw [hf]
  dsimp only
  rw [if_pos hl, e]
  exact he_same hv (by rw [List.take_left])
/-! ### slices -/
theorem cut_to {xs : List PV} (k : Nat) : cutP xs none (some (k : Int)) = xs.take k := by
  unfold cutP
  rw [HT.sIx_nat, HT.sIx_none, List.drop_zero, Nat.sub_zero]
  by_cases h : k ≤ xs.length
  · rw [Nat.min_eq_left h]
  · rw [Nat.min_eq_right (by omega), List.take_length, List.take_of_length_le (by omega)]
theorem cut_from {xs : List PV} (k : Nat) : cutP xs (some (k : Int)) none = xs.drop k := by
  unfold cutP
  rw [HT.sIx_nat, HT.sIx_none]
  by_cases h : k ≤ xs.length
  · rw [Nat.min_eq_left h]
    exact List.take_of_length_le (by rw [List.length_drop]; omega)
  · rw [Nat.min_eq_right (by omega), List.drop_of_length_le (Nat.le_refl _), List.drop_of_length_le (by omega), List.take_nil]
theorem cut_last {xs : List PV} : cutP xs none (some (-1)) = xs.dropLast := by
  unfold cutP
  rw [HT.sIx_none, List.drop_zero, Nat.sub_zero, List.dropLast_eq_take]
  congr 1
  show (if (-1 : Int) < 0 then ((-1 : Int) + (xs.length : Int)).toNat else min (-1 : Int).toNat xs.length) = _
  rw [if_pos (by decide)]
  omega
theorem sliT_V {C : Calls} {a : IE} {env : Env} {s s1 : Store} {lo hi : IO} {l h : Option Int} {xs ys : List PV} (ha : ev C a env s = .ok (.tup xs) s1) (hl : evo C lo env s1 = .ok l s1) (hh : evo C hi env s1 = .ok h s1) (e : cutP xs l h = ys) : ev C (.sli false a lo hi) env s = .ok (.tup ys) s1 := sli_V ha hl hh (by rw [← e]; rfl)
theorem sliL_V {C : Calls} {a : IE} {env : Env} {s s1 s2 s3 : Store} {lo hi : IO} {l h : Option Int} {xs ys : List PV} (ha : ev C a env s = .ok (.lst xs) s1) (hl : evo C lo env s1 = .ok l s2) (hh : evo C hi env s2 = .ok h s3) (e : cutP xs l h = ys) : ev C (.sli false a lo hi) env s = .ok (.lst ys) s3 := by
  rw [ev.eq_24, ha, Res.bind_ok, hl, Res.bind_ok, hh, Res.bind_ok, ← e]
  rfl
theorem log_lt {i : Int} {m : Nat} (h : i.natAbs < 2 ^ m) (hm : m ≤ 1900) (h0 : 0 < m) : i.natAbs.log2 < 1900 := by
  by_cases q : i.natAbs = 0
  · rw [q]; decide
  · have := (Nat.log2_lt q).mpr h
    omega
end MP

/-! The text in the small language, printed by gen.py. -/
namespace K55
open PySem PySem.Spec PyProof.Rows L2 MP
def top (i : Nat) : Stmt := PySem.Challenge.pw_sureweights_k55_runs_of_code.main.body.getD i (.Pass ⟨0, 0, 0, 0⟩)
def b_f_is_whole : ISs :=
  (.cons (.ret (.and (.blt false (.isT "int") (.cons (.var 0) .nil)) (.nt (.blt false (.isT "bool") (.cons (.var 0) .nil)))))
    .nil)
def b_f_is_number : ISs :=
  (.cons (.ret (.and (.call "is_whole" (.cons (.var 0) .nil)) (.chain .le .le (.var 1) (.var 0) (.var 2))))
    .nil)
def b_f_is_tuple_of : ISs :=
  (.cons (.ret (.and (.blt false (.isT "tuple") (.cons (.var 0) .nil)) (.cmp .eq (.blt false .len (.cons (.var 0) .nil)) (.var 1))))
    .nil)
def b_f_is_cell : ISs :=
  (.cons (.ret (.call "is_number" (.cons (.var 0) (.cons (.int 0) (.cons (.bin false .sub (.var 1) (.int 1)) .nil)))))
    .nil)
def b_f_is_sum_row : ISs :=
  (.cons (.ife (.or (.cmp .ne (.blt false .len (.cons (.var 0) .nil)) (.int 4)) (.or (.nt (.blt false (.isT "tuple") (.cons (.idx (.var 0) (.int 1)) .nil))) (.cmp .eq (.idx (.var 0) (.int 1)) (.tup .nil)))) (.cons (.ret (.bl false))
    .nil) .nil)
    (.cons (.for (.one 2) (.val (.idx (.var 0) (.int 1))) (.cons (.ife (.or (.nt (.blt false (.isT "tuple") (.cons (.var 2) .nil))) (.or (.cmp .ne (.blt false .len (.cons (.var 2) .nil)) (.int 2)) (.or (.nt (.call "is_whole" (.cons (.idx (.var 2) (.int 0)) .nil))) (.nt (.call "is_cell" (.cons (.idx (.var 2) (.int 1)) (.cons (.var 1) .nil))))))) (.cons (.ret (.bl false))
    .nil) .nil)
    .nil))
    (.cons (.asg 3 (.comp false (.idx (.var 2) (.int 1)) (.one 2) [2] (.val (.idx (.var 0) (.int 1))) .no))
    (.cons (.ret (.and (.cmp .eq (.var 3) (.blt false .ssort1 (.cons (.var 3) .nil))) (.and (.call "is_whole" (.cons (.idx (.var 0) (.int 2)) .nil)) (.and (.call "is_whole" (.cons (.idx (.var 0) (.int 3)) .nil)) (.cmp .gt (.idx (.var 0) (.int 3)) (.int 0))))))
    .nil))))
def b_f_is_code_row : ISs :=
  (.cons (.ife (.or (.nt (.blt false (.isT "tuple") (.cons (.var 0) .nil))) (.or (.cmp .eq (.var 0) (.tup .nil)) (.nt (.blt false (.isT "str") (.cons (.idx (.var 0) (.int 0)) .nil))))) (.cons (.ret (.bl false))
    .nil) .nil)
    (.cons (.ife (.cmp .eq (.idx (.var 0) (.int 0)) (.str "sum")) (.cons (.ret (.call "is_sum_row" (.cons (.var 0) (.cons (.var 1) .nil))))
    .nil) .nil)
    (.cons (.ife (.cmp .eq (.idx (.var 0) (.int 0)) (.str "rest")) (.cons (.ret (.and (.cmp .eq (.blt false .len (.cons (.var 0) .nil)) (.int 2)) (.call "is_cell" (.cons (.idx (.var 0) (.int 1)) (.cons (.var 1) .nil)))))
    .nil) .nil)
    (.cons (.ife (.or (.cmp .ne (.idx (.var 0) (.int 0)) (.str "greatest")) (.or (.cmp .ne (.blt false .len (.cons (.var 0) .nil)) (.int 2)) (.or (.nt (.blt false (.isT "tuple") (.cons (.idx (.var 0) (.int 1)) .nil))) (.cmp .eq (.idx (.var 0) (.int 1)) (.tup .nil))))) (.cons (.ret (.bl false))
    .nil) .nil)
    (.cons (.asg 2 (.idx (.var 0) (.int 1)))
    (.cons (.ret (.and (.blt false .all1 (.cons (.comp false (.call "is_cell" (.cons (.var 3) (.cons (.var 1) .nil))) (.one 3) [3] (.val (.var 2)) .no) .nil)) (.cmp .eq (.blt false .nset1 (.cons (.var 2) .nil)) (.blt false .len (.cons (.var 2) .nil)))))
    .nil))))))
def b_f_is_code_form : ISs :=
  (.cons (.ife (.or (.nt (.blt false (.isT "tuple") (.cons (.var 0) .nil))) (.or (.cmp .ne (.blt false .len (.cons (.var 0) .nil)) (.int 3)) (.nt (.call "is_number" (.cons (.idx (.var 0) (.int 0)) (.cons (.int 1) (.cons (.glob "MOST_INPUTS") .nil))))))) (.cons (.ret (.bl false))
    .nil) .nil)
    (.cons (.ife (.or (.nt (.blt false (.isT "tuple") (.cons (.idx (.var 0) (.int 1)) .nil))) (.or (.cmp .gt (.blt false .len (.cons (.idx (.var 0) (.int 1)) .nil)) (.glob "MOST_CELLS")) (.nt (.blt false (.isT "tuple") (.cons (.idx (.var 0) (.int 2)) .nil))))) (.cons (.ret (.bl false))
    .nil) .nil)
    (.cons (.ife (.nt (.blt false .all1 (.cons (.comp false (.call "is_code_row" (.cons (.var 3) (.cons (.bin false .add (.idx (.var 0) (.int 0)) (.var 2)) .nil))) (.many [2, 3]) [2, 3] (.enum (.idx (.var 0) (.int 1))) .no) .nil))) (.cons (.ret (.bl false))
    .nil) .nil)
    (.cons (.ret (.and (.chain .le .le (.int 1) (.blt false .len (.cons (.idx (.var 0) (.int 2)) .nil)) (.glob "MOST_INPUTS")) (.blt false .all1 (.cons (.comp false (.call "is_cell" (.cons (.var 1) (.cons (.bin false .add (.idx (.var 0) (.int 0)) (.blt false .len (.cons (.idx (.var 0) (.int 1)) .nil))) .nil))) (.one 1) [1] (.val (.idx (.var 0) (.int 2))) .no) .nil))))
    .nil))))
def b_f_cells_read : ISs :=
  (.cons (.ife (.cmp .eq (.idx (.var 0) (.int 0)) (.str "sum")) (.cons (.ret (.comp false (.var 2) (.many [1, 2]) [1, 2] (.val (.idx (.var 0) (.int 1))) .no))
    .nil) .nil)
    (.cons (.ret (.ife (.cmp .eq (.idx (.var 0) (.int 0)) (.str "rest")) (.lst false (.cons (.idx (.var 0) (.int 1)) .nil)) (.blt false .list1 (.cons (.idx (.var 0) (.int 1)) .nil))))
    .nil))
def b_f_factors_met : ISs :=
  (.cons (.asg 1 (.comp true (.int 1) (.one 4) [4] (.rng1 (.idx (.var 0) (.int 0))) .no))
    (.cons (.for (.one 2) (.val (.idx (.var 0) (.int 1))) (.cons (.asg 3 (.comp false (.idx (.var 1) (.var 5)) (.one 5) [5] (.val (.call "cells_read" (.cons (.var 2) .nil))) .no))
    (.cons (.ife (.cmp .ne (.var 3) (.bin false .mul (.lst false (.cons (.idx (.var 3) (.int 0)) .nil)) (.blt false .len (.cons (.var 3) .nil)))) (.cons (.ret (.var 1))
    .nil) .nil)
    (.cons (.expr (.meth .append (.var 1) (.cons (.ife (.cmp .eq (.idx (.var 2) (.int 0)) (.str "sum")) (.bin false .mul (.idx (.var 3) (.int 0)) (.idx (.var 2) (.int 3))) (.idx (.var 3) (.int 0))) .nil)))
    .nil))))
    (.cons (.ret (.var 1))
    .nil)))
def b_f_is_code : ISs :=
  (.cons (.ret (.and (.call "is_code_form" (.cons (.var 0) .nil)) (.cmp .eq (.blt false .len (.cons (.call "factors_met" (.cons (.var 0) .nil)) .nil)) (.bin false .add (.idx (.var 0) (.int 0)) (.blt false .len (.cons (.idx (.var 0) (.int 1)) .nil))))))
    .nil)
def b_f_need_code : ISs :=
  (.cons (.ife (.nt (.call "is_code" (.cons (.var 0) .nil))) (.cons (.raise "BadCode" .nil)
    .nil) .nil)
    .nil)
def b_f_common_divisor : ISs :=
  (.cons (.par 0 1 (.blt false .abs (.cons (.var 0) .nil)) (.blt false .abs (.cons (.var 1) .nil)))
    (.cons (.whl (.cmp .ne (.var 1) (.int 0)) (.cons (.par 0 1 (.var 1) (.bin false .mod (.var 0) (.var 1)))
    .nil))
    (.cons (.ret (.var 0))
    .nil)))
def b_f_reduced : ISs :=
  (.cons (.ife (.cmp .lt (.var 1) (.int 0)) (.cons (.par 0 1 (.neg (.var 0)) (.neg (.var 1)))
    .nil) .nil)
    (.cons (.asg 2 (.call "common_divisor" (.cons (.var 0) (.cons (.var 1) .nil))))
    (.cons (.ret (.tup (.cons (.bin false .fdiv (.var 0) (.var 2)) (.cons (.bin false .fdiv (.var 1) (.var 2)) .nil))))
    .nil)))
def b_f_is_fraction : ISs :=
  (.cons (.ife (.or (.nt (.call "is_tuple_of" (.cons (.var 0) (.cons (.int 2) .nil)))) (.or (.nt (.call "is_whole" (.cons (.idx (.var 0) (.int 0)) .nil))) (.or (.nt (.call "is_whole" (.cons (.idx (.var 0) (.int 1)) .nil))) (.cmp .lt (.idx (.var 0) (.int 1)) (.int 1))))) (.cons (.ret (.bl false))
    .nil) .nil)
    (.cons (.ret (.cmp .eq (.call "common_divisor" (.cons (.idx (.var 0) (.int 0)) (.cons (.idx (.var 0) (.int 1)) .nil))) (.int 1)))
    .nil))
def b_f_is_vector : ISs :=
  (.cons (.ret (.and (.call "is_tuple_of" (.cons (.var 0) (.cons (.var 1) .nil))) (.blt false .all1 (.cons (.comp false (.call "is_fraction" (.cons (.var 2) .nil)) (.one 2) [2] (.val (.var 0)) .no) .nil))))
    .nil)
def b_f_multiple_of : ISs :=
  (.cons (.asg 1 (.int 1))
    (.cons (.for (.one 2) (.val (.var 0)) (.cons (.asg 1 (.bin false .mul (.bin false .fdiv (.var 1) (.call "common_divisor" (.cons (.var 1) (.cons (.var 2) .nil)))) (.var 2)))
    .nil))
    (.cons (.ret (.var 1))
    .nil)))
def b_f_divisor_of : ISs :=
  (.cons (.ret (.call "multiple_of" (.cons (.comp false (.idx (.var 1) (.int 1)) (.one 1) [1] (.val (.var 0)) .no) .nil)))
    .nil)
def b_f_whole_over : ISs :=
  (.cons (.ret (.bin false .mul (.idx (.var 0) (.int 0)) (.bin false .fdiv (.var 1) (.idx (.var 0) (.int 1)))))
    .nil)
def b_f_fraction_of_wholes : ISs :=
  (.cons (.ret (.call "reduced" (.cons (.var 0) (.cons (.var 1) .nil))))
    .nil)
def b_f_need_code_run : ISs :=
  (.cons (.expr (.call "need_code" (.cons (.var 0) .nil)))
    (.cons (.ife (.nt (.call "is_vector" (.cons (.var 1) (.cons (.idx (.var 0) (.int 0)) .nil)))) (.cons (.raise "BadInput" .nil)
    .nil) .nil)
    .nil))
def b_f_value_of_row : ISs :=
  (.cons (.ife (.cmp .eq (.idx (.var 0) (.int 0)) (.str "rest")) (.cons (.ret (.blt false .max2 (.cons (.int 0) (.cons (.idx (.var 1) (.idx (.var 0) (.int 1))) .nil))))
    .nil) .nil)
    (.cons (.ife (.cmp .eq (.idx (.var 0) (.int 0)) (.str "greatest")) (.cons (.ret (.blt false .max1 (.cons (.comp false (.idx (.var 1) (.var 3)) (.one 3) [3] (.val (.idx (.var 0) (.int 1))) .no) .nil)))
    .nil) .nil)
    (.cons (.ret (.bin false .add (.blt false .sum1 (.cons (.comp false (.bin false .mul (.var 4) (.idx (.var 1) (.var 3))) (.many [4, 3]) [4, 3] (.val (.idx (.var 0) (.int 1))) .no) .nil)) (.bin false .mul (.idx (.var 0) (.int 2)) (.var 2))))
    .nil)))
def b_f_first_read : ISs :=
  (.cons (.ret (.ife (.cmp .eq (.idx (.var 0) (.int 0)) (.str "sum")) (.idx (.idx (.idx (.var 0) (.int 1)) (.int 0)) (.int 1)) (.ife (.cmp .eq (.idx (.var 0) (.int 0)) (.str "rest")) (.idx (.var 0) (.int 1)) (.idx (.idx (.var 0) (.int 1)) (.int 0)))))
    .nil)
def b_f_cells_led : ISs :=
  (.cons (.asgt [4, 5] (.tup (.cons (.call "divisor_of" (.cons (.var 1) .nil)) (.cons (.call "factors_met" (.cons (.var 0) .nil)) .nil))))
    (.cons (.asg 2 (.comp true (.call "whole_over" (.cons (.var 6) (.cons (.var 4) .nil))) (.one 6) [6] (.val (.var 1)) .no))
    (.cons (.for (.one 3) (.val (.idx (.var 0) (.int 1))) (.cons (.expr (.meth .append (.var 2) (.cons (.call "value_of_row" (.cons (.var 3) (.cons (.var 2) (.cons (.bin false .mul (.var 4) (.idx (.var 5) (.call "first_read" (.cons (.var 3) .nil)))) .nil)))) .nil)))
    .nil))
    (.cons (.ret (.tup (.cons (.var 4) (.cons (.var 2) .nil))))
    .nil))))
def b_f_whole_cells : ISs :=
  (.cons (.expr (.call "need_code_run" (.cons (.var 0) (.cons (.var 1) .nil))))
    (.cons (.asgt [2, 3] (.call "cells_led" (.cons (.var 0) (.cons (.var 1) .nil))))
    (.cons (.ret (.tup (.cons (.var 2) (.cons (.blt false .tuple1 (.cons (.var 3) .nil)) .nil))))
    .nil)))
def b_f_ran_whole : ISs :=
  (.cons (.expr (.call "need_code_run" (.cons (.var 0) (.cons (.var 1) .nil))))
    (.cons (.asgt [3, 4] (.call "cells_led" (.cons (.var 0) (.cons (.var 1) .nil))))
    (.cons (.asg 2 (.call "factors_met" (.cons (.var 0) .nil)))
    (.cons (.ret (.blt false .tuple1 (.cons (.comp false (.call "fraction_of_wholes" (.cons (.idx (.var 4) (.var 5)) (.cons (.bin false .mul (.var 3) (.idx (.var 2) (.var 5))) .nil))) (.one 5) [5] (.val (.idx (.var 0) (.int 2))) .no) .nil)))
    .nil))))
def b_law_begun : ISs :=
  (.cons (.asg 1 (.comp true (.bin false .sub (.blt false .abs (.cons (.var 2) .nil)) (.bin false .pow (.int 10) (.int 18))) (.one 2) [2] (.val (.var 0)) (.so (.cmp .ge (.blt false .abs (.cons (.var 2) .nil)) (.bin false .pow (.int 10) (.int 18))))))
    (.cons (.ret (.dct [.inr "great", .inr "cells", .inr "left", .inr "turn"] (.cons (.var 1) (.cons (.comp false (.blt false .abs (.cons (.var 2) .nil)) (.one 2) [2] (.val (.var 0)) .no) (.cons (.int 0) (.cons (.int 0) .nil))))))
    .nil))
def b_law_blended : ISs :=
  (.cons (.par 2 3 (.bin false .add (.idx (.var 0) (.str "turn")) (.int 1)) (.int 0))
    (.cons (.asgi (.var 0) (.str "turn") (.var 2))
    (.cons (.for (.one 1) (.val (.lst false (.cons (.int 2147481487) (.cons (.int 2147481373) (.cons (.int 2147481367) .nil))))) (.cons (.asg 4 (.bin false .add (.bin false .mul (.int 47911) (.var 2)) (.bin false .fdiv (.var 1) (.int 97))))
    (.cons (.for (.one 5) (.val (.idx (.var 0) (.str "cells"))) (.cons (.asg 4 (.bin false .mod (.blt false .int1 (.cons (.bin false .add (.bin false .add (.bin false .mul (.var 4) (.int 66047)) (.var 5)) (.var 2)) .nil)) (.var 1)))
    .nil))
    (.cons (.asg 3 (.bin false .add (.bin false .mul (.var 3) (.int 2147483647)) (.bin false .mod (.blt false .int1 (.cons (.bin false .pow (.var 4) (.int 5)) .nil)) (.var 1))))
    .nil))))
    (.cons (.ret (.var 3))
    .nil))))
def b_law_draw : ISs :=
  (.cons (.ife (.cmp .eq (.idx (.var 0) (.str "left")) (.int 0)) (.cons (.asgi (.var 0) (.str "left") (.ife (.cmp .ne (.idx (.var 0) (.str "great")) (.lst false .nil)) (.meth .pop1 (.idx (.var 0) (.str "great")) (.cons (.int 0) .nil)) (.call "_law_blended" (.cons (.var 0) .nil))))
    .nil) .nil)
    (.cons (.asg 2 (.bin false .mod (.blt false .int1 (.cons (.idx (.var 0) (.str "left")) .nil)) (.var 1)))
    (.cons (.asgi (.var 0) (.str "left") (.bin false .fdiv (.idx (.var 0) (.str "left")) (.var 1)))
    (.cons (.ret (.var 2))
    .nil))))
def b_law_pick : ISs :=
  (.cons (.ret (.idx (.var 1) (.call "_law_draw" (.cons (.var 0) (.cons (.blt false .len (.cons (.var 1) .nil)) .nil)))))
    .nil)
def b_law_mixed : ISs :=
  (.cons (.par 2 3 (.blt true .list1 (.cons (.var 1) .nil)) (.lst true .nil))
    (.cons (.whl (.cmp .ne (.var 2) (.lst false .nil)) (.cons (.expr (.meth .append (.var 3) (.cons (.meth .pop1 (.var 2) (.cons (.call "_law_draw" (.cons (.var 0) (.cons (.blt false .len (.cons (.var 2) .nil)) .nil))) .nil)) .nil)))
    .nil))
    (.cons (.ret (.var 3))
    .nil)))
def b_law_wn_cut : ISs :=
  (.cons (.par 2 3 (.blt false .abs (.cons (.var 0) .nil)) (.blt false .abs (.cons (.var 1) .nil)))
    (.cons (.whl (.cmp .gt (.var 3) (.int 0)) (.cons (.par 2 3 (.var 3) (.bin false .mod (.var 2) (.var 3)))
    .nil))
    (.cons (.asg 2 (.ife (.cmp .gt (.var 1) (.int 0)) (.var 2) (.bin false .sub (.int 0) (.var 2))))
    (.cons (.ret (.tup (.cons (.bin false .fdiv (.var 0) (.var 2)) (.cons (.bin false .fdiv (.var 1) (.var 2)) .nil))))
    .nil))))
def b_law_wn_add : ISs :=
  (.cons (.ret (.call "_law_wn_cut" (.cons (.bin false .add (.bin false .mul (.idx (.var 0) (.int 0)) (.idx (.var 1) (.int 1))) (.bin false .mul (.idx (.var 1) (.int 0)) (.idx (.var 0) (.int 1)))) (.cons (.bin false .mul (.idx (.var 0) (.int 1)) (.idx (.var 1) (.int 1))) .nil))))
    .nil)
def b_law_wn_mul : ISs :=
  (.cons (.ret (.call "_law_wn_cut" (.cons (.bin false .mul (.idx (.var 0) (.int 0)) (.idx (.var 1) (.int 0))) (.cons (.bin false .mul (.idx (.var 0) (.int 1)) (.idx (.var 1) (.int 1))) .nil))))
    .nil)
def b_law_wn_below : ISs :=
  (.cons (.ret (.cmp .lt (.bin false .mul (.idx (.var 0) (.int 0)) (.idx (.var 1) (.int 1))) (.bin false .mul (.idx (.var 1) (.int 0)) (.idx (.var 0) (.int 1)))))
    .nil)
def b_law_wn_greatest : ISs :=
  (.cons (.asg 1 (.idx (.var 0) (.int 0)))
    (.cons (.for (.one 2) (.val (.sli false (.var 0) (.so (.int 1)) .no)) (.cons (.asg 1 (.ife (.call "_law_wn_below" (.cons (.var 1) (.cons (.var 2) .nil))) (.var 2) (.var 1)))
    .nil))
    (.cons (.ret (.var 1))
    .nil)))
def b_law_wh_common : ISs :=
  (.cons (.par 0 1 (.blt false .abs (.cons (.var 0) .nil)) (.blt false .abs (.cons (.var 1) .nil)))
    (.cons (.whl (.cmp .gt (.var 1) (.int 0)) (.cons (.par 0 1 (.var 1) (.bin false .mod (.var 0) (.var 1)))
    .nil))
    (.cons (.ret (.var 0))
    .nil)))
def b_law_wh_over : ISs :=
  (.cons (.asg 1 (.int 1))
    (.cons (.for (.one 2) (.val (.var 0)) (.cons (.asg 1 (.bin false .fdiv (.bin false .mul (.var 1) (.idx (.var 2) (.int 1))) (.call "_law_wh_common" (.cons (.var 1) (.cons (.idx (.var 2) (.int 1)) .nil)))))
    .nil))
    (.cons (.ret (.var 1))
    .nil)))
def b_law_wh_read : ISs :=
  (.cons (.ret (.ife (.cmp .eq (.idx (.var 0) (.int 0)) (.str "sum")) (.comp false (.idx (.var 1) (.int 1)) (.one 1) [1] (.val (.idx (.var 0) (.int 1))) .no) (.ife (.cmp .eq (.idx (.var 0) (.int 0)) (.str "rest")) (.lst false (.cons (.idx (.var 0) (.int 1)) .nil)) (.blt false .list1 (.cons (.idx (.var 0) (.int 1)) .nil)))))
    .nil)
def b_law_wh_factors : ISs :=
  (.cons (.asg 1 (.bin true .mul (.lst false (.cons (.int 1) .nil)) (.idx (.var 0) (.int 0))))
    (.cons (.for (.one 2) (.val (.idx (.var 0) (.int 1))) (.cons (.asg 3 (.idx (.var 1) (.idx (.call "_law_wh_read" (.cons (.var 2) .nil)) (.int 0))))
    (.cons (.expr (.meth .append (.var 1) (.cons (.ife (.cmp .eq (.idx (.var 2) (.int 0)) (.str "sum")) (.bin false .mul (.var 3) (.idx (.var 2) (.int 3))) (.var 3)) .nil)))
    .nil)))
    (.cons (.ret (.var 1))
    .nil)))
def b_law_wh_values : ISs :=
  (.cons (.asgt [3, 4] (.tup (.cons (.blt true .list1 (.cons (.var 1) .nil)) (.cons (.call "_law_wh_factors" (.cons (.var 0) .nil)) .nil))))
    (.cons (.for (.one 2) (.val (.idx (.var 0) (.int 1))) (.cons (.ife (.cmp .eq (.idx (.var 2) (.int 0)) (.str "sum")) (.cons (.asg 5 (.tup (.cons (.idx (.var 2) (.int 2)) (.cons (.int 1) .nil))))
    (.cons (.for (.many [6, 7]) (.val (.idx (.var 2) (.int 1))) (.cons (.asg 5 (.call "_law_wn_add" (.cons (.var 5) (.cons (.call "_law_wn_mul" (.cons (.tup (.cons (.var 6) (.cons (.int 1) .nil))) (.cons (.idx (.var 3) (.var 7)) .nil))) .nil))))
    .nil))
    (.cons (.expr (.meth .append (.var 3) (.cons (.call "_law_wn_mul" (.cons (.var 5) (.cons (.tup (.cons (.int 1) (.cons (.idx (.var 2) (.int 3)) .nil))) .nil))) .nil)))
    .nil))) (.cons (.ife (.cmp .eq (.idx (.var 2) (.int 0)) (.str "rest")) (.cons (.expr (.meth .append (.var 3) (.cons (.ife (.cmp .lt (.idx (.idx (.var 3) (.idx (.var 2) (.int 1))) (.int 0)) (.int 0)) (.tup (.cons (.int 0) (.cons (.int 1) .nil))) (.idx (.var 3) (.idx (.var 2) (.int 1)))) .nil)))
    .nil) (.cons (.expr (.meth .append (.var 3) (.cons (.call "_law_wn_greatest" (.cons (.comp false (.idx (.var 3) (.var 7)) (.one 7) [7] (.val (.idx (.var 2) (.int 1))) .no) .nil)) .nil)))
    .nil))
    .nil))
    .nil))
    (.cons (.ret (.var 3))
    .nil)))
def b_law_wh_code : ISs :=
  (.cons (.asgt [5, 6] (.tup (.cons (.lst true .nil) (.cons (.bin true .mul (.lst false (.cons (.int 1) .nil)) (.var 1)) .nil))))
    (.cons (.for (.one 3) (.rng1 (.call "_law_draw" (.cons (.var 0) (.cons (.bin false .add (.var 2) (.int 1)) .nil)))) (.cons (.asg 7 (.call "_law_draw" (.cons (.var 0) (.cons (.blt false .len (.cons (.var 6) .nil)) .nil))))
    (.cons (.asg 8 (.comp false (.var 13) (.one 13) [13] (.rng1 (.blt false .len (.cons (.var 6) .nil))) (.so (.cmp .eq (.idx (.var 6) (.var 13)) (.idx (.var 6) (.var 7))))))
    (.cons (.par 9 10 (.call "_law_draw" (.cons (.var 0) (.cons (.int 5) .nil))) (.sli false (.call "_law_mixed" (.cons (.var 0) (.cons (.var 8) .nil))) .no (.so (.bin false .add (.int 1) (.call "_law_draw" (.cons (.var 0) (.cons (.int 3) .nil)))))))
    (.cons (.ife (.cmp .lt (.var 9) (.int 3)) (.cons (.asg 11 (.call "_law_pick" (.cons (.var 0) (.cons (.lst false (.cons (.int 1) (.cons (.int 1) (.cons (.int 1) (.cons (.int 2) (.cons (.int 3) (.cons (.int 10) .nil))))))) .nil))))
    (.cons (.asg 12 (.blt false .tuple1 (.cons (.comp false (.tup (.cons (.call "_law_pick" (.cons (.var 0) (.cons (.lst false (.cons (.int 0) (.cons (.int 1) (.cons (.int 1) (.cons (.neg (.int 1)) (.cons (.int 2) (.cons (.neg (.int 3)) (.cons (.int 7) (.cons (.bin false .pow (.int 10) (.int 12)) .nil))))))))) .nil))) (.cons (.var 13) .nil))) (.one 13) [13] (.val (.blt false .sorted1 (.cons (.var 10) .nil))) .no) .nil)))
    (.cons (.expr (.meth .append (.var 5) (.cons (.tup (.cons (.str "sum") (.cons (.var 12) (.cons (.call "_law_pick" (.cons (.var 0) (.cons (.lst false (.cons (.int 0) (.cons (.int 0) (.cons (.int 1) (.cons (.neg (.int 2)) (.cons (.int 5) .nil)))))) .nil))) (.cons (.var 11) .nil))))) .nil)))
    (.cons (.expr (.meth .append (.var 6) (.cons (.bin false .mul (.idx (.var 6) (.var 7)) (.var 11)) .nil)))
    .nil)))) (.cons (.expr (.meth .append (.var 5) (.cons (.ife (.cmp .eq (.var 9) (.int 3)) (.tup (.cons (.str "rest") (.cons (.var 7) .nil))) (.tup (.cons (.str "greatest") (.cons (.blt false .tuple1 (.cons (.var 10) .nil)) .nil)))) .nil)))
    (.cons (.expr (.meth .append (.var 6) (.cons (.idx (.var 6) (.var 7)) .nil)))
    .nil)))
    .nil)))))
    (.cons (.asg 4 (.blt false .tuple1 (.cons (.comp false (.call "_law_draw" (.cons (.var 0) (.cons (.blt false .len (.cons (.var 6) .nil)) .nil))) (.one 3) [3] (.rng1 (.bin false .add (.int 1) (.call "_law_draw" (.cons (.var 0) (.cons (.int 3) .nil))))) .no) .nil)))
    (.cons (.ret (.tup (.cons (.var 1) (.cons (.blt false .tuple1 (.cons (.var 5) .nil)) (.cons (.var 4) .nil)))))
    .nil))))
def b_law_wh_point : ISs :=
  (.cons (.ret (.blt false .tuple1 (.cons (.comp false (.call "_law_wn_cut" (.cons (.bin false .sub (.call "_law_draw" (.cons (.var 0) (.cons (.int 41) .nil))) (.int 20)) (.cons (.call "_law_pick" (.cons (.var 0) (.cons (.lst false (.cons (.int 1) (.cons (.int 1) (.cons (.int 2) (.cons (.int 3) (.cons (.int 7) (.cons (.bin false .pow (.int 10) (.int 9)) .nil))))))) .nil))) .nil))) (.one 2) [2] (.rng1 (.var 1)) .no) .nil)))
    .nil)
def b_law_wh_same : ISs :=
  (.cons (.ret (.cmp .eq (.blt false .repr1 (.cons (.var 0) .nil)) (.blt false .repr1 (.cons (.var 1) .nil))))
    .nil)
def b_f_law : ISs :=
  (.cons (.asg 1 (.call "_law_begun" (.cons (.var 0) .nil)))
    (.cons (.for (.one 2) (.rng1 (.bin false .add (.int 10) (.blt false .min2 (.cons (.int 50) (.cons (.blt false .len (.cons (.var 0) .nil)) .nil))))) (.cons (.asg 5 (.bin false .add (.int 1) (.call "_law_draw" (.cons (.var 1) (.cons (.int 3) .nil)))))
    (.cons (.asgt [8, 9] (.tup (.cons (.call "_law_wh_code" (.cons (.var 1) (.cons (.var 5) (.cons (.int 9) .nil)))) (.cons (.call "_law_wh_point" (.cons (.var 1) (.cons (.var 5) .nil))) .nil))))
    (.cons (.asgt [10, 11, 12] (.tup (.cons (.call "_law_wh_values" (.cons (.var 8) (.cons (.var 9) .nil))) (.cons (.call "_law_wh_factors" (.cons (.var 8) .nil)) (.cons (.call "_law_wh_over" (.cons (.var 9) .nil)) .nil)))))
    (.cons (.asg 6 (.lst true .nil))
    (.cons (.for (.many [13, 14]) (.zip (.var 10) (.var 11)) (.cons (.expr (.meth .append (.var 6) (.cons (.bin false .mul (.idx (.var 13) (.int 0)) (.bin false .fdiv (.bin false .mul (.var 12) (.var 14)) (.idx (.var 13) (.int 1)))) .nil)))
    .nil))
    (.cons (.ife (.nt (.call "_law_wh_same" (.cons (.callk "whole_cells" .nil (.cons (.var 8) (.cons (.var 9) .nil)) [0, 1]) (.cons (.tup (.cons (.var 12) (.cons (.blt false .tuple1 (.cons (.var 6) .nil)) .nil))) .nil)))) (.cons (.ret (.bl false))
    .nil) .nil)
    (.cons (.ife (.nt (.call "_law_wh_same" (.cons (.callk "ran_whole" (.cons (.var 8) .nil) (.cons (.var 9) .nil) [0, 1]) (.cons (.blt false .tuple1 (.cons (.comp false (.idx (.var 10) (.var 15)) (.one 15) [15] (.val (.idx (.var 8) (.int 2))) .no) .nil)) .nil)))) (.cons (.ret (.bl false))
    .nil) .nil)
    (.cons (.for (.one 7) (.val (.lst false (.cons .non (.cons (.bin false .add (.var 9) (.tup (.cons (.tup (.cons (.int 1) (.cons (.int 1) .nil))) .nil))) (.cons (.sli false (.var 9) (.so (.int 1)) .no) (.cons (.blt false .list1 (.cons (.var 9) .nil)) (.cons (.bin false .add (.sli false (.var 9) .no (.so (.neg (.int 1)))) (.tup (.cons (.tup (.cons (.int 2) (.cons (.int 2) .nil))) .nil))) (.cons (.bin false .add (.sli false (.var 9) .no (.so (.neg (.int 1)))) (.tup (.cons (.tup (.cons (.int 1) (.cons (.int 0) .nil))) .nil))) (.cons (.bin false .add (.sli false (.var 9) .no (.so (.neg (.int 1)))) (.tup (.cons (.tup (.cons (.int 1) (.cons (.neg (.int 1)) .nil))) .nil))) (.cons (.bin false .add (.sli false (.var 9) .no (.so (.neg (.int 1)))) (.tup (.cons (.int 1) .nil))) (.cons (.bin false .add (.sli false (.var 9) .no (.so (.neg (.int 1)))) (.tup (.cons (.tup (.cons (.bl true) (.cons (.int 1) .nil))) .nil))) .nil))))))))))) (.cons (.ife (.nt (.blt false (.isC "BadInput") (.cons (.caught "NetError" (.call "whole_cells" (.cons (.var 8) (.cons (.var 7) .nil)))) .nil))) (.cons (.ret (.bl false))
    .nil) .nil)
    (.cons (.ife (.nt (.blt false (.isC "BadInput") (.cons (.caught "NetError" (.call "ran_whole" (.cons (.var 8) (.cons (.var 7) .nil)))) .nil))) (.cons (.ret (.bl false))
    .nil) .nil)
    .nil)))
    .nil)))))))))
    (.cons (.asg 3 (.bin false .pow (.int 10) (.int 40)))
    (.cons (.asg 4 (.tup (.cons (.int 1) (.cons (.bin false .add (.tup (.cons (.tup (.cons (.str "sum") (.cons (.tup (.cons (.tup (.cons (.var 3) (.cons (.int 0) .nil))) .nil)) (.cons (.int 1) (.cons (.int 3) .nil))))) .nil)) (.tup (.cons (.tup (.cons (.str "sum") (.cons (.tup (.cons (.tup (.cons (.var 3) (.cons (.int 1) .nil))) .nil)) (.cons (.int 0) (.cons (.int 7) .nil))))) .nil))) (.cons (.tup (.cons (.int 2) .nil)) .nil)))))
    (.cons (.ret (.cmp .eq (.call "ran_whole" (.cons (.var 4) (.cons (.tup (.cons (.tup (.cons (.int 1) (.cons (.int 2) .nil))) .nil)) .nil))) (.tup (.cons (.call "_law_wn_cut" (.cons (.bin false .add (.bin false .mul (.var 3) (.var 3)) (.bin false .mul (.int 2) (.var 3))) (.cons (.int 42) .nil))) .nil))))
    .nil)))))
def d_f_is_whole : DI := ⟨"is_whole", top 1, ["value"], ["value"], b_f_is_whole, false⟩
def d_f_is_number : DI := ⟨"is_number", top 2, ["value", "least", "most"], ["value", "least", "most"], b_f_is_number, false⟩
def d_f_is_tuple_of : DI := ⟨"is_tuple_of", top 3, ["value", "size"], ["value", "size"], b_f_is_tuple_of, false⟩
def d_f_is_cell : DI := ⟨"is_cell", top 11, ["value", "many"], ["value", "many"], b_f_is_cell, false⟩
def d_f_is_sum_row : DI := ⟨"is_sum_row", top 12, ["value", "many"], ["value", "many", "term", "cells"], b_f_is_sum_row, false⟩
def d_f_is_code_row : DI := ⟨"is_code_row", top 13, ["value", "many"], ["value", "many", "cells", "cell"], b_f_is_code_row, false⟩
def d_f_is_code_form : DI := ⟨"is_code_form", top 14, ["value"], ["value", "cell", "at", "row"], b_f_is_code_form, false⟩
def d_f_cells_read : DI := ⟨"cells_read", top 15, ["row"], ["row", "whole", "cell"], b_f_cells_read, false⟩
def d_f_factors_met : DI := ⟨"factors_met", top 16, ["code"], ["code", "found", "row", "read", "number", "cell"], b_f_factors_met, false⟩
def d_f_is_code : DI := ⟨"is_code", top 17, ["value"], ["value"], b_f_is_code, false⟩
def d_f_need_code : DI := ⟨"need_code", top 18, ["code"], ["code"], b_f_need_code, false⟩
def d_f_common_divisor : DI := ⟨"common_divisor", top 20, ["one", "other"], ["one", "other"], b_f_common_divisor, false⟩
def d_f_reduced : DI := ⟨"reduced", top 21, ["number", "divisor"], ["number", "divisor", "common"], b_f_reduced, false⟩
def d_f_is_fraction : DI := ⟨"is_fraction", top 22, ["value"], ["value"], b_f_is_fraction, false⟩
def d_f_is_vector : DI := ⟨"is_vector", top 24, ["value", "many"], ["value", "many", "one"], b_f_is_vector, false⟩
def d_f_multiple_of : DI := ⟨"multiple_of", top 26, ["numbers"], ["numbers", "found", "number"], b_f_multiple_of, false⟩
def d_f_divisor_of : DI := ⟨"divisor_of", top 27, ["fractions"], ["fractions", "one"], b_f_divisor_of, false⟩
def d_f_whole_over : DI := ⟨"whole_over", top 28, ["one", "divisor"], ["one", "divisor"], b_f_whole_over, false⟩
def d_f_fraction_of_wholes : DI := ⟨"fraction_of_wholes", top 29, ["whole", "divisor"], ["whole", "divisor"], b_f_fraction_of_wholes, false⟩
def d_f_need_code_run : DI := ⟨"need_code_run", top 31, ["code", "inputs"], ["code", "inputs"], b_f_need_code_run, false⟩
def d_f_value_of_row : DI := ⟨"value_of_row", top 32, ["row", "cells", "scale"], ["row", "cells", "scale", "cell", "whole"], b_f_value_of_row, false⟩
def d_f_first_read : DI := ⟨"first_read", top 33, ["row"], ["row"], b_f_first_read, false⟩
def d_f_cells_led : DI := ⟨"cells_led", top 34, ["code", "inputs"], ["code", "inputs", "cells", "row", "divisor", "factors", "one"], b_f_cells_led, false⟩
def d_f_whole_cells : DI := ⟨"whole_cells", top 35, ["code", "inputs"], ["code", "inputs", "divisor", "cells"], b_f_whole_cells, false⟩
def d_f_ran_whole : DI := ⟨"ran_whole", top 36, ["code", "inputs"], ["code", "inputs", "factors", "divisor", "cells", "cell"], b_f_ran_whole, false⟩
def d_law_begun : DI := ⟨"_law_begun", top 38, ["script"], ["script", "great", "cell"], b_law_begun, false⟩
def d_law_blended : DI := ⟨"_law_blended", top 39, ["state"], ["state", "prime", "turn", "found", "blend", "cell"], b_law_blended, false⟩
def d_law_draw : DI := ⟨"_law_draw", top 40, ["state", "size_here"], ["state", "size_here", "found"], b_law_draw, false⟩
def d_law_pick : DI := ⟨"_law_pick", top 41, ["state", "several"], ["state", "several"], b_law_pick, false⟩
def d_law_mixed : DI := ⟨"_law_mixed", top 42, ["state", "several"], ["state", "several", "left", "found"], b_law_mixed, false⟩
def d_law_wn_cut : DI := ⟨"_law_wn_cut", top 44, ["n", "d"], ["n", "d", "one", "other"], b_law_wn_cut, false⟩
def d_law_wn_add : DI := ⟨"_law_wn_add", top 45, ["one", "other"], ["one", "other"], b_law_wn_add, false⟩
def d_law_wn_mul : DI := ⟨"_law_wn_mul", top 46, ["one", "other"], ["one", "other"], b_law_wn_mul, false⟩
def d_law_wn_below : DI := ⟨"_law_wn_below", top 47, ["one", "other"], ["one", "other"], b_law_wn_below, false⟩
def d_law_wn_greatest : DI := ⟨"_law_wn_greatest", top 48, ["numbers"], ["numbers", "found", "one"], b_law_wn_greatest, false⟩
def d_law_wh_common : DI := ⟨"_law_wh_common", top 49, ["one", "other"], ["one", "other"], b_law_wh_common, false⟩
def d_law_wh_over : DI := ⟨"_law_wh_over", top 50, ["numbers"], ["numbers", "found", "one"], b_law_wh_over, false⟩
def d_law_wh_read : DI := ⟨"_law_wh_read", top 51, ["row"], ["row", "term"], b_law_wh_read, false⟩
def d_law_wh_factors : DI := ⟨"_law_wh_factors", top 52, ["code"], ["code", "found", "row", "first"], b_law_wh_factors, false⟩
def d_law_wh_values : DI := ⟨"_law_wh_values", top 53, ["code", "point"], ["code", "point", "row", "found", "factors", "total", "whole", "cell"], b_law_wh_values, false⟩
def d_law_wh_code : DI := ⟨"_law_wh_code", top 54, ["state", "inputs", "many"], ["state", "inputs", "many", "turn", "outputs", "rows", "factors", "base", "like", "way", "some", "factor", "terms", "cell"], b_law_wh_code, false⟩
def d_law_wh_point : DI := ⟨"_law_wh_point", top 55, ["state", "inputs"], ["state", "inputs", "place"], b_law_wh_point, false⟩
def d_law_wh_same : DI := ⟨"_law_wh_same", top 56, ["found", "due"], ["found", "due"], b_law_wh_same, false⟩
def d_f_law : DI := ⟨"law", top 57, ["script"], ["script", "state", "lap", "far", "great", "inputs", "due", "wrong", "code", "point", "values", "factors", "divisor", "value", "factor", "cell"], b_f_law, true⟩
def ds : List DI := (([d_f_is_whole, d_f_is_number, d_f_is_tuple_of, d_f_is_cell, d_f_is_sum_row, d_f_is_code_row, d_f_is_code_form, d_f_cells_read, d_f_factors_met, d_f_is_code, d_f_need_code, d_f_common_divisor, d_f_reduced, d_f_is_fraction, d_f_is_vector, d_f_multiple_of, d_f_divisor_of, d_f_whole_over, d_f_fraction_of_wholes, d_f_need_code_run, d_f_value_of_row, d_f_first_read, d_f_cells_led, d_f_whole_cells] : List (DI)) ++ ([d_f_ran_whole, d_law_begun, d_law_blended, d_law_draw, d_law_pick, d_law_mixed, d_law_wn_cut, d_law_wn_add, d_law_wn_mul, d_law_wn_below, d_law_wn_greatest, d_law_wh_common, d_law_wh_over, d_law_wh_read, d_law_wh_factors, d_law_wh_values, d_law_wh_code, d_law_wh_point, d_law_wh_same, d_f_law] : List (DI)))
def heldSt : Stmt := top 43
def subT : SubT := [("BadCode", "BadCode", true), ("BadCode", "BadInput", false), ("BadCode", "NetError", true), ("BadInput", "BadCode", false), ("BadInput", "BadInput", true), ("BadInput", "NetError", true), ("NetError", "BadCode", false), ("NetError", "BadInput", false), ("NetError", "NetError", true)]
def cs : List (Str × PV) := [("MOST_CELLS", .int 1000), ("MOST_INPUTS", .int 36)]
def kws : List (Str × Nat × List Str × List Nat) := [("ran_whole", 1, ["inputs"], [0, 1]), ("whole_cells", 0, ["code", "inputs"], [0, 1])]
def heldD : DI := ⟨"_law_caught", heldSt, ["work"], NgC, .nil, false⟩
def lt : LT := ⟨ds, cs, ["BadCode", "BadInput", "NetError"], subT, ["abs", "all", "bool", "enumerate", "int", "isinstance", "len", "list", "max", "min", "range", "repr", "set", "sorted", "str", "sum", "tuple", "zip"], kws, heldD, "NetError", ["law"]⟩
abbrev LRow : PySem.W.OpenLaw := PySem.Challenge.rw_sureweights_k55_runs_of_code
theorem bd_f_is_whole : Bd d_f_is_whole := fun _ _ _ _ _ _ us hl => match us, hl with | [_], _ => rfl
theorem bd_f_is_number : Bd d_f_is_number := fun _ _ _ _ _ _ us hl => match us, hl with | [_, _, _], _ => rfl
theorem bd_f_is_tuple_of : Bd d_f_is_tuple_of := fun _ _ _ _ _ _ us hl => match us, hl with | [_, _], _ => rfl
theorem bd_f_is_cell : Bd d_f_is_cell := fun _ _ _ _ _ _ us hl => match us, hl with | [_, _], _ => rfl
theorem bd_f_is_sum_row : Bd d_f_is_sum_row := fun _ _ _ _ _ _ us hl => match us, hl with | [_, _], _ => rfl
theorem bd_f_is_code_row : Bd d_f_is_code_row := fun _ _ _ _ _ _ us hl => match us, hl with | [_, _], _ => rfl
theorem bd_f_is_code_form : Bd d_f_is_code_form := fun _ _ _ _ _ _ us hl => match us, hl with | [_], _ => rfl
theorem bd_f_cells_read : Bd d_f_cells_read := fun _ _ _ _ _ _ us hl => match us, hl with | [_], _ => rfl
theorem bd_f_factors_met : Bd d_f_factors_met := fun _ _ _ _ _ _ us hl => match us, hl with | [_], _ => rfl
theorem bd_f_is_code : Bd d_f_is_code := fun _ _ _ _ _ _ us hl => match us, hl with | [_], _ => rfl
theorem bd_f_need_code : Bd d_f_need_code := fun _ _ _ _ _ _ us hl => match us, hl with | [_], _ => rfl
theorem bd_f_common_divisor : Bd d_f_common_divisor := fun _ _ _ _ _ _ us hl => match us, hl with | [_, _], _ => rfl
theorem bd_f_reduced : Bd d_f_reduced := fun _ _ _ _ _ _ us hl => match us, hl with | [_, _], _ => rfl
theorem bd_f_is_fraction : Bd d_f_is_fraction := fun _ _ _ _ _ _ us hl => match us, hl with | [_], _ => rfl
theorem bd_f_is_vector : Bd d_f_is_vector := fun _ _ _ _ _ _ us hl => match us, hl with | [_, _], _ => rfl
theorem bd_f_multiple_of : Bd d_f_multiple_of := fun _ _ _ _ _ _ us hl => match us, hl with | [_], _ => rfl
theorem bd_f_divisor_of : Bd d_f_divisor_of := fun _ _ _ _ _ _ us hl => match us, hl with | [_], _ => rfl
theorem bd_f_whole_over : Bd d_f_whole_over := fun _ _ _ _ _ _ us hl => match us, hl with | [_, _], _ => rfl
theorem bd_f_fraction_of_wholes : Bd d_f_fraction_of_wholes := fun _ _ _ _ _ _ us hl => match us, hl with | [_, _], _ => rfl
theorem bd_f_need_code_run : Bd d_f_need_code_run := fun _ _ _ _ _ _ us hl => match us, hl with | [_, _], _ => rfl
theorem bd_f_value_of_row : Bd d_f_value_of_row := fun _ _ _ _ _ _ us hl => match us, hl with | [_, _, _], _ => rfl
theorem bd_f_first_read : Bd d_f_first_read := fun _ _ _ _ _ _ us hl => match us, hl with | [_], _ => rfl
theorem bd_f_cells_led : Bd d_f_cells_led := fun _ _ _ _ _ _ us hl => match us, hl with | [_, _], _ => rfl
theorem bd_f_whole_cells : Bd d_f_whole_cells := fun _ _ _ _ _ _ us hl => match us, hl with | [_, _], _ => rfl
theorem bd_f_ran_whole : Bd d_f_ran_whole := fun _ _ _ _ _ _ us hl => match us, hl with | [_, _], _ => rfl
theorem bd_law_begun : Bd d_law_begun := fun _ _ _ _ _ _ us hl => match us, hl with | [_], _ => rfl
theorem bd_law_blended : Bd d_law_blended := fun _ _ _ _ _ _ us hl => match us, hl with | [_], _ => rfl
theorem bd_law_draw : Bd d_law_draw := fun _ _ _ _ _ _ us hl => match us, hl with | [_, _], _ => rfl
theorem bd_law_pick : Bd d_law_pick := fun _ _ _ _ _ _ us hl => match us, hl with | [_, _], _ => rfl
theorem bd_law_mixed : Bd d_law_mixed := fun _ _ _ _ _ _ us hl => match us, hl with | [_, _], _ => rfl
theorem bd_law_wn_cut : Bd d_law_wn_cut := fun _ _ _ _ _ _ us hl => match us, hl with | [_, _], _ => rfl
theorem bd_law_wn_add : Bd d_law_wn_add := fun _ _ _ _ _ _ us hl => match us, hl with | [_, _], _ => rfl
theorem bd_law_wn_mul : Bd d_law_wn_mul := fun _ _ _ _ _ _ us hl => match us, hl with | [_, _], _ => rfl
theorem bd_law_wn_below : Bd d_law_wn_below := fun _ _ _ _ _ _ us hl => match us, hl with | [_, _], _ => rfl
theorem bd_law_wn_greatest : Bd d_law_wn_greatest := fun _ _ _ _ _ _ us hl => match us, hl with | [_], _ => rfl
theorem bd_law_wh_common : Bd d_law_wh_common := fun _ _ _ _ _ _ us hl => match us, hl with | [_, _], _ => rfl
theorem bd_law_wh_over : Bd d_law_wh_over := fun _ _ _ _ _ _ us hl => match us, hl with | [_], _ => rfl
theorem bd_law_wh_read : Bd d_law_wh_read := fun _ _ _ _ _ _ us hl => match us, hl with | [_], _ => rfl
theorem bd_law_wh_factors : Bd d_law_wh_factors := fun _ _ _ _ _ _ us hl => match us, hl with | [_], _ => rfl
theorem bd_law_wh_values : Bd d_law_wh_values := fun _ _ _ _ _ _ us hl => match us, hl with | [_, _], _ => rfl
theorem bd_law_wh_code : Bd d_law_wh_code := fun _ _ _ _ _ _ us hl => match us, hl with | [_, _, _], _ => rfl
theorem bd_law_wh_point : Bd d_law_wh_point := fun _ _ _ _ _ _ us hl => match us, hl with | [_, _], _ => rfl
theorem bd_law_wh_same : Bd d_law_wh_same := fun _ _ _ _ _ _ us hl => match us, hl with | [_, _], _ => rfl
theorem bd_f_law : Bd d_f_law := fun _ _ _ _ _ _ us hl => match us, hl with | [_], _ => rfl
theorem bd_held : Bd heldD := fun _ _ _ _ _ _ us hl => match us, hl with | [_], _ => rfl
theorem kb_0 : Kb d_f_ran_whole 1 ["inputs"] [0, 1] := fun _ _ _ _ _ _ us ws h1 h2 => match us, ws, h1, h2 with | [_], [_], _, _ => rfl
theorem kb_1 : Kb d_f_whole_cells 0 ["code", "inputs"] [0, 1] := fun _ _ _ _ _ _ us ws h1 h2 => match us, ws, h1, h2 with | [], [_, _], _, _ => rfl
theorem okd : lt.ds.all (fun d => d.ok lt.M) = true := by decide +kernel
theorem ltOk : LTOk lt where
  names := by decide +kernel
  okd := okd
  csOk := rfl
  sub := by decide +kernel
  tf := by decide +kernel
  bd := AllL.mem (l := ds) ⟨bd_f_is_whole, bd_f_is_number, bd_f_is_tuple_of, bd_f_is_cell, bd_f_is_sum_row, bd_f_is_code_row, bd_f_is_code_form, bd_f_cells_read, bd_f_factors_met, bd_f_is_code, bd_f_need_code, bd_f_common_divisor, bd_f_reduced, bd_f_is_fraction, bd_f_is_vector, bd_f_multiple_of, bd_f_divisor_of, bd_f_whole_over, bd_f_fraction_of_wholes, bd_f_need_code_run, bd_f_value_of_row, bd_f_first_read, bd_f_cells_led, bd_f_whole_cells, bd_f_ran_whole, bd_law_begun, bd_law_blended, bd_law_draw, bd_law_pick, bd_law_mixed, bd_law_wn_cut, bd_law_wn_add, bd_law_wn_mul, bd_law_wn_below, bd_law_wn_greatest, bd_law_wh_common, bd_law_wh_over, bd_law_wh_read, bd_law_wh_factors, bd_law_wh_values, bd_law_wh_code, bd_law_wh_point, bd_law_wh_same, bd_f_law, trivial⟩
  kb := kb_all (by decide +kernel) (AllK.nil |>.cons (List.mem_of_getElem? (i := 23) rfl) rfl kb_1 |>.cons (List.mem_of_getElem? (i := 24) rfl) rfl kb_0)
  bh := bd_held
  hps := rfl
  hN := by decide +kernel
  hB := ⟨_, _, _, _, _, _, _, _, _, _, _, _, _, _, _, rfl⟩
  hS := ⟨by decide +kernel, by decide +kernel, by decide +kernel, by decide +kernel⟩
  hC := by decide +kernel
def loose : List PySem.Str := (["is_whole", "is_number", "is_tuple_of", "NetError", "BadCode", "BadInput", "MOST_INPUTS", "MOST_CELLS", "is_cell", "is_sum_row", "is_code_row", "is_code_form", "cells_read", "factors_met", "is_code", "need_code", "common_divisor", "reduced", "is_fraction", "is_vector", "multiple_of", "divisor_of", "whole_over", "fraction_of_wholes"] : List PySem.Str) ++ (["need_code_run", "value_of_row", "first_read", "cells_led", "whole_cells", "ran_whole", "_law_begun", "_law_blended", "_law_draw", "_law_pick", "_law_mixed", "_law_caught", "_law_wn_cut", "_law_wn_add", "_law_wn_mul", "_law_wn_below", "_law_wn_greatest", "_law_wh_common", "_law_wh_over", "_law_wh_read", "_law_wh_factors", "_law_wh_values", "_law_wh_code", "_law_wh_point"] : List PySem.Str) ++ (["_law_wh_same"] : List PySem.Str)
abbrev R : PySem.W.OpenRow := PySem.W.OpenLaw.row LRow
abbrev hk : PySem.W.Hook := He.hookX 4 lt.fa lt.fn [] lt.tfd lt.ex
def ob (s : PySem.W.SharedT) : He.AlX := He.obsX 4 lt.fa lt.fn [] lt.tfd lt.ex (HandSHeadRun.getT s)
theorem ob_eq (s : PySem.W.SharedT) : ob s = hk.obs s.abs := He.obsX_eq (HandSHeadRun.getT_eq s)
theorem run (w : World) : HandSHeadRun.RunEq R (PySem.W.view R.prog [57]) hk ob 6000 loose w := by
  intro os
  kernel_rfl
theorem law_mem : d_f_law ∈ lt.ds := List.mem_of_getElem? (i := 43) rfl
theorem walk (k : Nat) (hk : 2 * k + 1 ≤ 220) (law_ok : ∀ ns : List Int, ns.length ≤ 63 → (∀ z ∈ ns, Builtin.Int.intBits z ≤ 1048576) → ∃ s, callF lt.T k "law" [.wl (ns.map PV.int)] [] = .ok (.bl true) s) :
    LRow.Holds := by
  open PySem.W PySem.Calls in
  w_on; o_law
  refine HandSHeadRun.head_any (r := PySem.W.OpenLaw.row LRow) (q := PySem.W.view (PySem.W.OpenLaw.row LRow).prog [57]) (H := K55.hk) (ob := K55.ob) (M := 6000) (loose := K55.loose) (d := HandSHeadRun.topDef (PySem.W.OpenLaw.row LRow).prog 57) (kwd := []) ob_eq
    (by kernel_rfl) (fun s => by kernel_rfl) run (by kernel_rfl) (by kernel_rfl) (by kernel_rfl) (by rfl) (by first | assumption | decide +kernel) (by decide +kernel) ⟨rfl, rfl, rfl, rfl, rfl, by decide +kernel⟩ ?hw ?hc
  case hw => w_witness2
  case hc =>
    exact MP.law_walk (t := lt) (l := LRow) (n := 63) (k := k) (lawD := d_f_law) ltOk rfl (by decide) (by kernel_rfl) (room_of hk) law_mem rfl (by kernel_rfl) (fun w h Y => Y) law_ok
end K55

/-! draws, picks: what the shared defs of the laws compute. -/
namespace K55
open PySem L2 TL SX MP
theorem gsub (k : Nat) : (callsOf lt.T k).sub = lt.T.sub := by cases k <;> rfl
theorem gfld (k : Nat) (c : Str) : ((callsOf lt.T k).fields c).isEmpty = true := by cases k <;> rfl
theorem gMC (k : Nat) : (callsOf lt.T k).glob "MOST_CELLS" = some (.int 1000) := by cases k <;> rfl
theorem gMI (k : Nat) : (callsOf lt.T k).glob "MOST_INPUTS" = some (.int 36) := by cases k <;> rfl
theorem gfn (k : Nat) : (callsOf lt.T k).fn = callF lt.T k := rfl
theorem line_v : line = 16777216 := by decide
theorem bits_le {n m : Nat} (h : n < 2 ^ (m + 1)) : bits (n : Int) ≤ m := by
  unfold bits
  rw [Int.natAbs_natCast]
  by_cases q : n = 0
  · subst q; simp
  · have := (Nat.log2_lt q).mpr h
    omega
def ni (l : List Nat) : List PV := l.map fun n => .int (n : Nat)
def kv (cs : List Nat) (l t : Int) : List (Key × PV) := [(.inr "great", .obj 0), (.inr "cells", .lst (ni cs)), (.inr "left", .int l), (.inr "turn", .int t)]
def stO (gs cs : List Nat) (l t : Int) (r : Store) : Store := .lst (ni gs) :: .dct (kv cs l t) :: r
theorem dg_great (cs : List Nat) (l t : Int) : dgetK (kv cs l t) (.inr "great") = some (.obj 0) := by rfl
theorem dg_cells (cs : List Nat) (l t : Int) : dgetK (kv cs l t) (.inr "cells") = some (.lst (ni cs)) := by rfl
theorem dg_left (cs : List Nat) (l t : Int) : dgetK (kv cs l t) (.inr "left") = some (.int l) := by rfl
theorem dg_turn (cs : List Nat) (l t : Int) : dgetK (kv cs l t) (.inr "turn") = some (.int t) := by rfl
theorem dp_left (cs : List Nat) (l t m : Int) : dputK (kv cs l t) (.inr "left") (.int m) = kv cs m t := by rfl
theorem dp_turn (cs : List Nat) (l t m : Int) : dputK (kv cs l t) (.inr "turn") (.int m) = kv cs l m := by rfl
theorem at0 (gs cs : List Nat) (l t : Int) (r : Store) : (stO gs cs l t r)[0]? = some (.lst (ni gs)) := rfl
theorem at1 (gs cs : List Nat) (l t : Int) (r : Store) : (stO gs cs l t r)[1]? = some (.dct (kv cs l t)) := rfl
theorem set1 (gs cs : List Nat) (l t l' t' : Int) (r : Store) : (stO gs cs l t r).set 1 (.dct (kv cs l' t')) = stO gs cs l' t' r := rfl
theorem set0 (gs gs' cs : List Nat) (l t : Int) (r : Store) : (stO gs cs l t r).set 0 (.lst (ni gs')) = stO gs' cs l t r := rfl
theorem kv_len (cs : List Nat) (l t : Int) : (kv cs l t).length < 16777216 := by show 4 < 16777216; decide
theorem t_begun : lt.T.fn "_law_begun" = some ⟨1, 3, b_law_begun⟩ := by rfl
theorem t_blended : lt.T.fn "_law_blended" = some ⟨1, 6, b_law_blended⟩ := by rfl
theorem t_draw : lt.T.fn "_law_draw" = some ⟨2, 3, b_law_draw⟩ := by rfl
theorem t_pick : lt.T.fn "_law_pick" = some ⟨2, 2, b_law_pick⟩ := by rfl
def bIn : ISs := .cons (.asg 4 (.bin false .mod (.blt false .int1 (.cons (.bin false .add (.bin false .add (.bin false .mul (.var 4) (.int 66047)) (.var 5)) (.var 2)) .nil)) (.var 1))) .nil
theorem in_loop (k : Nat) (s : Store) (p t f : Nat) (hp : 0 < p) (hp2 : p < 2 ^ 40) : ∀ (cs : List Nat) (b : Nat) (x : PV), b < 2 ^ 62 → ∃ b' x', b' < 2 ^ 62 ∧ forLoop (bodyF (callsOf lt.T k) (.one 5) bIn) [] (ni cs) [.obj 1, .int (p : Nat), .int (t : Nat), .int (f : Nat), .int (b : Nat), x] s = .nx [.obj 1, .int (p : Nat), .int (t : Nat), .int (f : Nat), .int (b' : Nat), x'] s
  | [], b, x, hb => ⟨b, x, hb, for_nil rfl⟩
  | c :: cs, b, x, hb => by
    obtain ⟨b', x', h1, h2⟩ := in_loop k s p t f hp hp2 cs ((b * 66047 + c + t) % p) (.int (c : Nat)) (Nat.lt_trans (Nat.mod_lt _ hp) (Nat.lt_trans hp2 (by decide)))
    refine ⟨b', x', h1, Eq.trans (for_nx (s' := s) rfl ?_) h2⟩
    have e1 : bits (b : Int) + bits 66047 < 900000 := by
      have := bits_le (n := b) (m := 61) hb
      have := bits_le (n := 66047) (m := 20) (by decide)
      have e : ((66047 : Nat) : Int) = 66047 := rfl
      rw [e] at this
      omega
    have e2 : (0 : Int) < (p : Int) := by omega
    show exs (callsOf lt.T k) bIn [.obj 1, .int (p : Nat), .int (t : Nat), .int (f : Nat), .int (b : Nat), .int (c : Nat)] s = _
    simp only [bIn, ev.eq_1, ev.eq_2, ev.eq_3, ev.eq_4, ev.eq_5, ev.eq_6, ev.eq_7, ev.eq_8, ev.eq_9, ev.eq_10, ev.eq_11, ev.eq_12, ev.eq_13, ev.eq_14, ev.eq_15, ev.eq_16, ev.eq_17, ev.eq_18, ev.eq_19, ev.eq_20, ev.eq_21, ev.eq_22, ev.eq_23, ev.eq_24, ev.eq_25, ev.eq_28, ev.eq_29, ex.eq_1, ex.eq_2, ex.eq_3, ex.eq_4, ex.eq_5, ex.eq_6, ex.eq_7, ex.eq_9, ex.eq_10, ex.eq_11, ex.eq_12, ex.eq_13, ex.eq_14, ex.eq_15, ex.eq_16, exs, evs, evo, evit, Res.bind_ok, Res.bind_exc, Res.sr_ok, Res.sr_exc, List.getElem?_cons_zero, List.getElem?_cons_succ, List.set_cons_zero, List.set_cons_succ, Option.map_some, Option.map_none, Option.bind_some, mkO, mkL, Res.of_some, truth, if_true, Bool.false_eq_true, if_false, SR.andThen_rt, SR.andThen_nx, SR.andThen_exc, isTy, bltSem, asLs, asSeq, decide_true, Bool.not_true, Bool.not_false, gMI, gMC, gsub, gfld, gfn, bools_map, binSem, e1, e2]
    congr 5
    
def bOut : ISs := .cons (.asg 4 (.bin false .add (.bin false .mul (.int 47911) (.var 2)) (.bin false .fdiv (.var 1) (.int 97))))
    (.cons (.for (.one 5) (.val (.idx (.var 0) (.str "cells"))) bIn)
    (.cons (.asg 3 (.bin false .add (.bin false .mul (.var 3) (.int 2147483647)) (.bin false .mod (.blt false .int1 (.cons (.bin false .pow (.var 4) (.int 5)) .nil)) (.var 1))))
    .nil))
theorem bits2 {n m : Nat} (h : n < 2 ^ (m + 1)) {i : Int} (e : i = (n : Int)) : bits i ≤ m := by rw [e]; exact bits_le h
theorem out_turn (k : Nat) (gs cs : List Nat) (l t : Nat) (l0 t0 : Int) (r : Store) (p f F : Nat) (x b y : PV) (hp : 0 < p) (hp2 : p < 2 ^ 40) (ht : t < 2 ^ 40) (hf : f < 2 ^ (F + 1)) (hF : F < 800000) :
    ∃ f' b' y', f' < 2 ^ (F + 41 + 1) ∧ bodyF (callsOf lt.T k) (.one 1) bOut (.int (p : Nat)) [.obj 1, x, .int (t : Nat), .int (f : Nat), b, y] (stO gs cs l0 t0 r) = .nx [.obj 1, .int (p : Nat), .int (t : Nat), .int (f' : Nat), b', y'] (stO gs cs l0 t0 r) := by
  have hq : p / 97 ≤ p := Nat.div_le_self _ _
  obtain ⟨b', y', h1, h2⟩ := in_loop k (stO gs cs l0 t0 r) p t f hp hp2 cs (47911 * t + p / 97) y (by
    have : 47911 * t ≤ 47911 * 2 ^ 40 := Nat.mul_le_mul_left _ (by omega)
    omega)
  have hfor := ex_for (C := callsOf lt.T k) (tg := .one 5) (it := .val (.idx (.var 0) (.str "cells"))) (env := [.obj 1, .int (p : Nat), .int (t : Nat), .int (f : Nat), .int ((47911 * t + p / 97 : Nat) : Int), y]) (s := stO gs cs l0 t0 r) (by
    simp only [ev.eq_1, ev.eq_2, ev.eq_3, ev.eq_4, ev.eq_5, ev.eq_6, ev.eq_7, ev.eq_8, ev.eq_9, ev.eq_10, ev.eq_11, ev.eq_12, ev.eq_13, ev.eq_14, ev.eq_15, ev.eq_16, ev.eq_17, ev.eq_18, ev.eq_19, ev.eq_20, ev.eq_21, ev.eq_22, ev.eq_23, ev.eq_24, ev.eq_25, ev.eq_28, ev.eq_29, exs, evs, evo, evit, Res.bind_ok, Res.bind_exc, Res.sr_ok, Res.sr_exc, List.getElem?_cons_zero, List.getElem?_cons_succ, List.set_cons_zero, List.set_cons_succ, Option.map_some, Option.map_none, Option.bind_some, mkO, mkL, Res.of_some, truth, if_true, Bool.false_eq_true, if_false, SR.andThen_rt, SR.andThen_nx, SR.andThen_exc, isTy, bltSem, asLs, asSeq, decide_true, Bool.not_true, Bool.not_false, gMI, gMC, gsub, gfld, gfn, bools_map, idxSem, at1, dg_cells]
    rfl) h2
  refine ⟨f * 2147483647 + b' ^ 5 % p, .int (b' : Nat), y', ?_, ?_⟩
  · have e1 : b' ^ 5 % p < 2 ^ 40 := Nat.lt_trans (Nat.mod_lt _ hp) hp2
    have e2 : f * 2147483647 ≤ 2 ^ (F + 1) * 2147483647 := Nat.mul_le_mul_right _ (Nat.le_of_lt hf)
    have e3 : (2 : Nat) ^ (F + 41 + 1) = 2 ^ (F + 1) * 2 ^ 41 := by rw [← Nat.pow_add]
    have e4 : 0 < (2 : Nat) ^ (F + 1) := Nat.two_pow_pos _
    have e5 : (2 : Nat) ^ (F + 1) * 2 ^ 41 = 2 ^ (F + 1) * 2147483647 + 2 ^ (F + 1) * (2 ^ 41 - 2147483647) := by rw [← Nat.mul_add]
    have e6 : 2 ^ 40 ≤ (2 : Nat) ^ (F + 1) * (2 ^ 41 - 2147483647) := Nat.le_trans (by decide) (Nat.le_mul_of_pos_left (2 ^ 41 - 2147483647) e4)
    rw [e3, e5]
    omega
  · show exs (callsOf lt.T k) bOut [.obj 1, .int (p : Nat), .int (t : Nat), .int (f : Nat), b, y] (stO gs cs l0 t0 r) = _
    have c1 : bits (47911 : Int) + bits (t : Int) < 900000 := by
      have := bits_le (n := t) (m := 39) ht
      have := bits2 (n := 47911) (m := 20) (by decide) (i := 47911) rfl
      omega
    have c2 : (0 : Int) < 97 ∧ bits (97 : Int) < 9000 := ⟨by decide, by have := bits2 (n := 97) (m := 20) (by decide) (i := 97) rfl; omega⟩
    have c3 : bits (f : Int) + bits (2147483647 : Int) < 900000 := by
      have := bits_le (n := f) (m := F) hf
      have := bits2 (n := 2147483647) (m := 31) (by decide) (i := 2147483647) rfl
      omega
    have c4 : (0 : Int) ≤ 5 ∧ (5 : Int) ≤ 1000000 ∧ (b' : Int).natAbs < 2 ^ 64 := ⟨by decide, by decide, by rw [Int.natAbs_natCast]; omega⟩
    have c5 : (0 : Int) < (p : Int) := by omega
    have e1 : (47911 : Int) * (t : Int) + (p : Int) / 97 = ((47911 * t + p / 97 : Nat) : Int) := by simp
    have e2 : (f : Int) * 2147483647 + (b' : Int) ^ (5 : Int).toNat % (p : Int) = ((f * 2147483647 + b' ^ 5 % p : Nat) : Int) := by
      rw [show (5 : Int).toNat = 5 from rfl]
      simp
    simp only [bOut, ev.eq_1, ev.eq_2, ev.eq_3, ev.eq_4, ev.eq_5, ev.eq_6, ev.eq_7, ev.eq_8, ev.eq_9, ev.eq_10, ev.eq_11, ev.eq_12, ev.eq_13, ev.eq_14, ev.eq_15, ev.eq_16, ev.eq_17, ev.eq_18, ev.eq_19, ev.eq_20, ev.eq_21, ev.eq_22, ev.eq_23, ev.eq_24, ev.eq_25, ev.eq_28, ev.eq_29, ex.eq_1, ex.eq_2, ex.eq_3, ex.eq_4, ex.eq_5, ex.eq_6, ex.eq_7, ex.eq_9, ex.eq_10, ex.eq_11, ex.eq_12, ex.eq_13, ex.eq_14, ex.eq_15, ex.eq_16, exs, evs, evo, evit, Res.bind_ok, Res.bind_exc, Res.sr_ok, Res.sr_exc, List.getElem?_cons_zero, List.getElem?_cons_succ, List.set_cons_zero, List.set_cons_succ, Option.map_some, Option.map_none, Option.bind_some, mkO, mkL, Res.of_some, truth, if_true, Bool.false_eq_true, if_false, SR.andThen_rt, SR.andThen_nx, SR.andThen_exc, isTy, bltSem, asLs, asSeq, decide_true, Bool.not_true, Bool.not_false, gMI, gMC, gsub, gfld, gfn, bools_map, binSem, c1, c2, c3, c4, c5, e1, hfor, and_self]
    rw [e2]
theorem s_blended (k : Nat) (gs cs : List Nat) (l t : Nat) (r : Store) (ht : t + 1 < 2 ^ 40) : ∃ f : Nat, callF lt.T (k + 1) "_law_blended" [.obj 1] (stO gs cs l t r) = .ok (.int (f : Nat)) (stO gs cs l (t + 1 : Nat) r) := by
  obtain ⟨f1, b1, y1, u1, v1⟩ := out_turn k gs cs l (t + 1) l ((t + 1 : Nat) : Int) r 2147481487 0 0 .und .und .und (by decide) (by decide) ht (by decide) (by decide)
  obtain ⟨f2, b2, y2, u2, v2⟩ := out_turn k gs cs l (t + 1) l ((t + 1 : Nat) : Int) r 2147481373 f1 41 (.int (2147481487 : Nat)) b1 y1 (by decide) (by decide) ht u1 (by decide)
  obtain ⟨f3, b3, y3, u3, v3⟩ := out_turn k gs cs l (t + 1) l ((t + 1 : Nat) : Int) r 2147481367 f2 82 (.int (2147481373 : Nat)) b2 y2 (by decide) (by decide) ht u2 (by decide)
  have hloop : forLoop (bodyF (callsOf lt.T k) (.one 1) bOut) [] [.int (2147481487 : Nat), .int (2147481373 : Nat), .int (2147481367 : Nat)] [.obj 1, .und, .int ((t + 1 : Nat) : Int), .int ((0 : Nat) : Int), .und, .und] (stO gs cs l (t + 1 : Nat) r) = .nx [.obj 1, .int (2147481367 : Nat), .int ((t + 1 : Nat) : Int), .int (f3 : Nat), b3, y3] (stO gs cs l (t + 1 : Nat) r) :=
    (for_nx rfl v1).trans ((for_nx rfl v2).trans ((for_nx rfl v3).trans (for_nil rfl)))
  have hfor := ex_for (C := callsOf lt.T k) (tg := .one 1) (it := .val (.lst false (.cons (.int 2147481487) (.cons (.int 2147481373) (.cons (.int 2147481367) .nil))))) (b := bOut) (env := [.obj 1, .und, .int ((t + 1 : Nat) : Int), .int ((0 : Nat) : Int), .und, .und]) (s := stO gs cs l (t + 1 : Nat) r) (by
    simp only [ev.eq_1, ev.eq_2, ev.eq_3, ev.eq_4, ev.eq_5, ev.eq_6, ev.eq_7, ev.eq_8, ev.eq_9, ev.eq_10, ev.eq_11, ev.eq_12, ev.eq_13, ev.eq_14, ev.eq_15, ev.eq_16, ev.eq_17, ev.eq_18, ev.eq_19, ev.eq_20, ev.eq_21, ev.eq_22, ev.eq_23, ev.eq_24, ev.eq_25, ev.eq_28, ev.eq_29, exs, evs, evo, evit, Res.bind_ok, Res.bind_exc, Res.sr_ok, Res.sr_exc, List.getElem?_cons_zero, List.getElem?_cons_succ, List.set_cons_zero, List.set_cons_succ, Option.map_some, Option.map_none, Option.bind_some, mkO, mkL, Res.of_some, truth, if_true, Bool.false_eq_true, if_false, SR.andThen_rt, SR.andThen_nx, SR.andThen_exc, isTy, bltSem, asLs, asSeq, decide_true, Bool.not_true, Bool.not_false, gMI, gMC, gsub, gfld, gfn, bools_map]
    rfl) hloop
  refine ⟨f3, ?_⟩
  have hb : exs (callsOf lt.T k) b_law_blended [.obj 1, .und, .und, .und, .und, .und] (stO gs cs l t r) = .rt (.int (f3 : Nat)) (stO gs cs l (t + 1 : Nat) r) := by
    have e1 : (t : Int) + 1 = ((t + 1 : Nat) : Int) := by omega
    show exs (callsOf lt.T k) (.cons (.par 2 3 (.bin false .add (.idx (.var 0) (.str "turn")) (.int 1)) (.int 0)) (.cons (.asgi (.var 0) (.str "turn") (.var 2)) (.cons (.for (.one 1) (.val (.lst false (.cons (.int 2147481487) (.cons (.int 2147481373) (.cons (.int 2147481367) .nil))))) bOut) (.cons (.ret (.var 3)) .nil)))) [.obj 1, .und, .und, .und, .und, .und] (stO gs cs l t r) = _
    have hfor' : ex (callsOf lt.T k) (.for (.one 1) (.val (.lst false (.cons (.int 2147481487) (.cons (.int 2147481373) (.cons (.int 2147481367) .nil))))) bOut) [.obj 1, .und, .int ((t + 1 : Nat) : Int), .int 0, .und, .und] (stO gs cs l (t + 1 : Nat) r) = .nx [.obj 1, .int (2147481367 : Nat), .int ((t + 1 : Nat) : Int), .int (f3 : Nat), b3, y3] (stO gs cs l (t + 1 : Nat) r) := hfor
    simp only [ev.eq_1, ev.eq_2, ev.eq_3, ev.eq_4, ev.eq_5, ev.eq_6, ev.eq_7, ev.eq_8, ev.eq_9, ev.eq_10, ev.eq_11, ev.eq_12, ev.eq_13, ev.eq_14, ev.eq_15, ev.eq_16, ev.eq_17, ev.eq_18, ev.eq_19, ev.eq_20, ev.eq_21, ev.eq_22, ev.eq_23, ev.eq_24, ev.eq_25, ev.eq_28, ev.eq_29, ex.eq_1, ex.eq_2, ex.eq_3, ex.eq_4, ex.eq_5, ex.eq_6, ex.eq_7, ex.eq_9, ex.eq_10, ex.eq_11, ex.eq_12, ex.eq_13, ex.eq_14, ex.eq_15, ex.eq_16, exs, evs, evo, evit, Res.bind_ok, Res.bind_exc, Res.sr_ok, Res.sr_exc, List.getElem?_cons_zero, List.getElem?_cons_succ, List.set_cons_zero, List.set_cons_succ, Option.map_some, Option.map_none, Option.bind_some, mkO, mkL, Res.of_some, truth, if_true, Bool.false_eq_true, if_false, SR.andThen_rt, SR.andThen_nx, SR.andThen_exc, isTy, bltSem, asLs, asSeq, decide_true, Bool.not_true, Bool.not_false, gMI, gMC, gsub, gfld, gfn, bools_map, binSem, idxSem, at1, dg_turn, e1, keyOf?, dp_turn, set1, hfor', line_v, kv_len]
  rw [call_rt t_blended rfl hb, hb_len (inb_int _ _) (by simp [stO])]
theorem ni_cons (g : Nat) (gs : List Nat) : ni (g :: gs) = .int (g : Nat) :: ni gs := rfl
def lv (gs cs : List Nat) (l t : Nat) (n : Nat) : Prop := True
theorem dats_ni (s : Store) : ∀ l : List Nat, dats s (ni l) = some (l.map fun n => PyData.int (n : Nat))
  | [] => rfl
  | a :: l => by
    show (match dat s (.int (a : Nat)), dats s (ni l) with | some d, some ds => some (d :: ds) | _, _ => none) = _
    rw [dats_ni s l]
    rfl
theorem lay_ni : ∀ l : List Nat, PyData.canLayAll0 (l.map fun n => PyData.int (n : Nat)) = true ∧ PyData.depthAll (l.map fun n => PyData.int (n : Nat)) ≤ 1
  | [] => ⟨rfl, by simp [PyData.depthAll]⟩
  | a :: l => by
    have ih := lay_ni l
    refine ⟨by simp [PyData.canLayAll0, PyData.canLay0, ih.1], ?_⟩
    simp [PyData.depthAll, PyData.depth]
    exact ih.2
theorem sh_ni (l : List Nat) : SeqAt.shaped (.list (l.map fun n => PyData.int (n : Nat))) = true := by
  have := lay_ni l
  unfold SeqAt.shaped
  simp [PyData.canLay0, PyData.depth, this.1]
  omega
theorem s_draw (k : Nat) (gs cs : List Nat) (l t : Nat) (r : Store) (n : Nat) (hn : 0 < n) (hn2 : n < 2 ^ 62) (ht : t + 1 < 2 ^ 40) : ∃ v gs' l' t', v < n ∧ t' ≤ t + 1 ∧ callF lt.T (k + 2) "_law_draw" [.obj 1, .int (n : Nat)] (stO gs cs l t r) = .ok (.int (v : Nat)) (stO gs' cs (l' : Nat) (t' : Nat) r) := by
  have hn' : (0 : Int) < (n : Int) := by omega
  have hb : (0 : Int) < (n : Int) ∧ bits (n : Int) < 9000 := ⟨hn', by have := bits_le (n := n) (m := 61) hn2; omega⟩
  have tail (gs' : List Nat) (l' t' : Nat) : exs (callsOf lt.T (k + 1)) (.cons (.asg 2 (.bin false .mod (.blt false .int1 (.cons (.idx (.var 0) (.str "left")) .nil)) (.var 1))) (.cons (.asgi (.var 0) (.str "left") (.bin false .fdiv (.idx (.var 0) (.str "left")) (.var 1))) (.cons (.ret (.var 2)) .nil))) [.obj 1, .int (n : Nat), .und] (stO gs' cs l' t' r) = .rt (.int ((l' % n : Nat) : Int)) (stO gs' cs (l' / n : Nat) t' r) := by
    have e1 : (l' : Int) % (n : Int) = ((l' % n : Nat) : Int) := by simp
    have e2 : (l' : Int) / (n : Int) = ((l' / n : Nat) : Int) := by simp
    simp only [ev.eq_1, ev.eq_2, ev.eq_3, ev.eq_4, ev.eq_5, ev.eq_6, ev.eq_7, ev.eq_8, ev.eq_9, ev.eq_10, ev.eq_11, ev.eq_12, ev.eq_13, ev.eq_14, ev.eq_15, ev.eq_16, ev.eq_17, ev.eq_18, ev.eq_19, ev.eq_20, ev.eq_21, ev.eq_22, ev.eq_23, ev.eq_24, ev.eq_25, ev.eq_28, ev.eq_29, ex.eq_1, ex.eq_2, ex.eq_3, ex.eq_4, ex.eq_5, ex.eq_6, ex.eq_7, ex.eq_9, ex.eq_10, ex.eq_11, ex.eq_12, ex.eq_13, ex.eq_14, ex.eq_15, ex.eq_16, exs, evs, evo, evit, Res.bind_ok, Res.bind_exc, Res.sr_ok, Res.sr_exc, List.getElem?_cons_zero, List.getElem?_cons_succ, List.set_cons_zero, List.set_cons_succ, Option.map_some, Option.map_none, Option.bind_some, mkO, mkL, Res.of_some, truth, if_true, Bool.false_eq_true, if_false, SR.andThen_rt, SR.andThen_nx, SR.andThen_exc, isTy, bltSem, asLs, asSeq, decide_true, Bool.not_true, Bool.not_false, gMI, gMC, gsub, gfld, gfn, bools_map, binSem, idxSem, at1, dg_left, hn', hb, and_self, e1, e2, keyOf?, dp_left, set1, line_v, kv_len]
  have fin (gs' : List Nat) (l' t' : Nat) (h : exs (callsOf lt.T (k + 1)) b_law_draw [.obj 1, .int (n : Nat), .und] (stO gs cs l t r) = exs (callsOf lt.T (k + 1)) (.cons (.asg 2 (.bin false .mod (.blt false .int1 (.cons (.idx (.var 0) (.str "left")) .nil)) (.var 1))) (.cons (.asgi (.var 0) (.str "left") (.bin false .fdiv (.idx (.var 0) (.str "left")) (.var 1))) (.cons (.ret (.var 2)) .nil))) [.obj 1, .int (n : Nat), .und] (stO gs' cs l' t' r)) (hl : gs'.length = gs'.length) (ht' : t' ≤ t + 1) :
      ∃ v gs' l' t', v < n ∧ t' ≤ t + 1 ∧ callF lt.T (k + 2) "_law_draw" [.obj 1, .int (n : Nat)] (stO gs cs l t r) = .ok (.int (v : Nat)) (stO gs' cs (l' : Nat) (t' : Nat) r) := by
    refine ⟨l' % n, gs', l' / n, t', Nat.mod_lt _ hn, ht', ?_⟩
    rw [tail] at h
    rw [call_rt (k := k + 1) t_draw rfl h, hb_len (inb_int _ _) (by simp [stO])]
  by_cases q : l = 0
  · subst q
    cases gs with
    | nil =>
      obtain ⟨f, ef⟩ := s_blended k [] cs 0 t r ht
      refine fin [] f (t + 1) ?_ rfl (Nat.le_refl _)
      have e1 : eqv (stO [] cs ((0 : Nat) : Int) t r) (.obj 0) (.lst []) = some true := by rfl
      have e2 : eqv (stO [] cs ((0 : Nat) : Int) t r) (.int ((0 : Nat) : Int)) (.int 0) = some true := by rfl
      simp only [b_law_draw, ev.eq_1, ev.eq_2, ev.eq_3, ev.eq_4, ev.eq_5, ev.eq_6, ev.eq_7, ev.eq_8, ev.eq_9, ev.eq_10, ev.eq_11, ev.eq_12, ev.eq_13, ev.eq_14, ev.eq_15, ev.eq_16, ev.eq_17, ev.eq_18, ev.eq_19, ev.eq_20, ev.eq_21, ev.eq_22, ev.eq_23, ev.eq_24, ev.eq_25, ev.eq_28, ev.eq_29, ex.eq_1, ex.eq_2, ex.eq_3, ex.eq_4, ex.eq_5, ex.eq_6, ex.eq_7, ex.eq_9, ex.eq_10, ex.eq_11, ex.eq_12, ex.eq_13, ex.eq_14, ex.eq_15, ex.eq_16, exs, evs, evo, evit, Res.bind_ok, Res.bind_exc, Res.sr_ok, Res.sr_exc, List.getElem?_cons_zero, List.getElem?_cons_succ, List.set_cons_zero, List.set_cons_succ, Option.map_some, Option.map_none, Option.bind_some, mkO, mkL, Res.of_some, truth, if_true, Bool.false_eq_true, if_false, SR.andThen_rt, SR.andThen_nx, SR.andThen_exc, isTy, bltSem, asLs, asSeq, decide_true, Bool.not_true, Bool.not_false, gMI, gMC, gsub, gfld, gfn, bools_map, cmpSem, idxSem, at1, dg_left, dg_great, e1, e2, ef, keyOf?, dp_left, set1, line_v, kv_len, List.length_nil, Nat.zero_le]
    | cons g gs =>
      refine fin gs g t ?_ rfl (Nat.le_succ _)
      have e1 : eqv (stO (g :: gs) cs ((0 : Nat) : Int) t r) (.obj 0) (.lst []) = some false := by
        show (match (dats _ (ni (g :: gs))).map PyData.list, some (PyData.list []) with
          | some d, some e => if SeqAt.shaped d && SeqAt.shaped e then some (PyData.eqv d e) else none
          | _, _ => none) = _
        rw [dats_ni]
        show (if SeqAt.shaped (.list ((g :: gs).map fun n => PyData.int (n : Nat))) && SeqAt.shaped (.list []) then some (PyData.eqv _ _) else none) = _
        rw [sh_ni]
        rfl
      have e2 : eqv (stO (g :: gs) cs ((0 : Nat) : Int) t r) (.int ((0 : Nat) : Int)) (.int 0) = some true := by rfl
      have e3 : mthSem .pop1 (stO (g :: gs) cs ((0 : Nat) : Int) t r) (.obj 0) [.int 0] = some (.int (g : Nat), stO gs cs ((0 : Nat) : Int) t r) := by
        show (if -(2 ^ 63) ≤ (0 : Int) ∧ (0 : Int) < 2 ^ 63 then (ixN (ni (g :: gs)).length 0).bind fun k => (ni (g :: gs))[k]?.map fun y => (y, (stO (g :: gs) cs ((0 : Nat) : Int) t r).set 0 (.lst ((ni (g :: gs)).eraseIdx k))) else none) = _
        rw [if_pos ⟨by decide, by decide⟩, show ixN (ni (g :: gs)).length 0 = some 0 by
          unfold ixN
          rw [if_pos (Int.le_refl _), if_pos (by simp [ni])]
          rfl]
        rfl
      simp only [b_law_draw, ev.eq_1, ev.eq_2, ev.eq_3, ev.eq_4, ev.eq_5, ev.eq_6, ev.eq_7, ev.eq_8, ev.eq_9, ev.eq_10, ev.eq_11, ev.eq_12, ev.eq_13, ev.eq_14, ev.eq_15, ev.eq_16, ev.eq_17, ev.eq_18, ev.eq_19, ev.eq_20, ev.eq_21, ev.eq_22, ev.eq_23, ev.eq_24, ev.eq_25, ev.eq_28, ev.eq_29, ex.eq_1, ex.eq_2, ex.eq_3, ex.eq_4, ex.eq_5, ex.eq_6, ex.eq_7, ex.eq_9, ex.eq_10, ex.eq_11, ex.eq_12, ex.eq_13, ex.eq_14, ex.eq_15, ex.eq_16, exs, evs, evo, evit, Res.bind_ok, Res.bind_exc, Res.sr_ok, Res.sr_exc, List.getElem?_cons_zero, List.getElem?_cons_succ, List.set_cons_zero, List.set_cons_succ, Option.map_some, Option.map_none, Option.bind_some, mkO, mkL, Res.of_some, truth, if_true, Bool.false_eq_true, if_false, SR.andThen_rt, SR.andThen_nx, SR.andThen_exc, isTy, bltSem, asLs, asSeq, decide_true, Bool.not_true, Bool.not_false, gMI, gMC, gsub, gfld, gfn, bools_map, cmpSem, idxSem, at1, at0, dg_left, dg_great, e1, e2, e3, recv, mthEnd, keyOf?, dp_left, set1, line_v, kv_len, List.length_nil, Nat.zero_le]
  · refine fin gs l t ?_ rfl (Nat.le_succ _)
    have e2 : eqv (stO gs cs l t r) (.int (l : Int)) (.int 0) = some false := by
      show some (decide ((l : Int) = 0)) = _
      rw [decide_eq_false (by omega)]
    simp only [b_law_draw, ev.eq_1, ev.eq_2, ev.eq_3, ev.eq_4, ev.eq_5, ev.eq_6, ev.eq_7, ev.eq_8, ev.eq_9, ev.eq_10, ev.eq_11, ev.eq_12, ev.eq_13, ev.eq_14, ev.eq_15, ev.eq_16, ev.eq_17, ev.eq_18, ev.eq_19, ev.eq_20, ev.eq_21, ev.eq_22, ev.eq_23, ev.eq_24, ev.eq_25, ev.eq_28, ev.eq_29, ex.eq_1, ex.eq_2, ex.eq_3, ex.eq_4, ex.eq_5, ex.eq_6, ex.eq_7, ex.eq_9, ex.eq_10, ex.eq_11, ex.eq_12, ex.eq_13, ex.eq_14, ex.eq_15, ex.eq_16, exs, evs, evo, evit, Res.bind_ok, Res.bind_exc, Res.sr_ok, Res.sr_exc, List.getElem?_cons_zero, List.getElem?_cons_succ, List.set_cons_zero, List.set_cons_succ, Option.map_some, Option.map_none, Option.bind_some, mkO, mkL, Res.of_some, truth, if_true, Bool.false_eq_true, if_false, SR.andThen_rt, SR.andThen_nx, SR.andThen_exc, isTy, bltSem, asLs, asSeq, decide_true, Bool.not_true, Bool.not_false, gMI, gMC, gsub, gfld, gfn, bools_map, cmpSem, idxSem, at1, dg_left, e2]
/-! ### draws, picks -/
def St (cs : List Nat) (B : Nat) (r : Store) (s : Store) : Prop := ∃ (gs : List Nat) (l t : Nat), s = stO gs cs (l : Nat) (t : Nat) r ∧ t ≤ B
theorem St.len {cs : List Nat} {B : Nat} {r s : Store} (h : St cs B r s) : s.length = r.length + 2 := by
  obtain ⟨gs, l, t, rfl, _⟩ := h
  rfl
theorem St.le {cs : List Nat} {B B' : Nat} {r s : Store} (h : St cs B r s) (hb : B ≤ B') : St cs B' r s := by
  obtain ⟨gs, l, t, e, h⟩ := h
  exact ⟨gs, l, t, e, Nat.le_trans h hb⟩
theorem St.at2 {cs : List Nat} {B : Nat} {x : SO} {s : Store} (h : St cs B [x] s) : s[2]? = some x := by
  obtain ⟨gs, l, t, rfl, _⟩ := h
  rfl
theorem St.set2 {cs : List Nat} {B : Nat} {x : SO} {s : Store} (h : St cs B [x] s) (y : SO) : St cs B [y] (s.set 2 y) := by
  obtain ⟨gs, l, t, rfl, h⟩ := h
  exact ⟨gs, l, t, rfl, h⟩
theorem d_draw (k : Nat) {cs : List Nat} {B : Nat} {r s : Store} (h : St cs B r s) (n : Nat) (hn : 0 < n) (hn2 : n < 2 ^ 62) (hB : B + 1 < 2 ^ 40) : ∃ v s', v < n ∧ St cs (B + 1) r s' ∧ callF lt.T (k + 2) "_law_draw" [.obj 1, .int (n : Nat)] s = .ok (.int (v : Nat)) s' := by
  obtain ⟨gs, l, t, rfl, ht⟩ := h
  obtain ⟨v, gs', l', t', h1, h2, h3⟩ := s_draw k gs cs l t r n hn hn2 (by omega)
  exact ⟨v, _, h1, ⟨gs', l', t', rfl, by omega⟩, h3⟩
theorem atI_nat {α : Type} {xs : List α} {v : Nat} (h : v < xs.length) : atI xs (v : Int) = some xs[v] := by
  unfold atI ixN
  rw [if_pos (by omega), if_pos (by omega)]
  simp [h]
theorem idx_L {xs : List PV} {v : Nat} (h : v < xs.length) (s : Store) : idxSem s (.lst xs) (.int (v : Nat)) = some xs[v] := by
  show atI xs (v : Int) = _
  exact atI_nat h
theorem idx_T {xs : List PV} {v : Nat} (h : v < xs.length) (s : Store) : idxSem s (.tup xs) (.int (v : Nat)) = some xs[v] := by
  show atI xs (v : Int) = _
  exact atI_nat h
theorem pick_V (k : Nat) {cs : List Nat} {B : Nat} {r s : Store} (h : St cs B r s) (hB : B + 1 < 2 ^ 40) (ws : List PV) (hz : 0 < ws.length) (hl : ws.length ≤ 16777216) (hi : ∀ w ∈ ws, w.inb s.length = true) : ∃ w s', w ∈ ws ∧ St cs (B + 1) r s' ∧ callF lt.T (k + 3) "_law_pick" [.obj 1, .lst ws] s = .ok w s' := by
  obtain ⟨v, s', h1, h2, h3⟩ := d_draw k h ws.length hz (by omega) hB
  refine ⟨ws[v], s', List.getElem_mem h1, h2, ?_⟩
  have hb : exs (callsOf lt.T (k + 2)) b_law_pick [.obj 1, .lst ws] s = .rt ws[v] s' := by
    simp only [b_law_pick, ev.eq_1, ev.eq_2, ev.eq_3, ev.eq_4, ev.eq_5, ev.eq_6, ev.eq_7, ev.eq_8, ev.eq_9, ev.eq_10, ev.eq_11, ev.eq_12, ev.eq_13, ev.eq_14, ev.eq_15, ev.eq_16, ev.eq_17, ev.eq_18, ev.eq_19, ev.eq_20, ev.eq_21, ev.eq_22, ev.eq_23, ev.eq_24, ev.eq_25, ev.eq_28, ev.eq_29, ex.eq_1, ex.eq_2, ex.eq_3, ex.eq_4, ex.eq_5, ex.eq_6, ex.eq_7, ex.eq_9, ex.eq_10, ex.eq_11, ex.eq_12, ex.eq_13, ex.eq_14, ex.eq_15, ex.eq_16, exs, evs, evo, evit, Res.bind_ok, Res.bind_exc, Res.sr_ok, Res.sr_exc, List.getElem?_cons_zero, List.getElem?_cons_succ, List.set_cons_zero, List.set_cons_succ, Option.map_some, Option.map_none, Option.bind_some, mkO, mkL, Res.of_some, truth, if_true, Bool.false_eq_true, if_false, SR.andThen_rt, SR.andThen_nx, SR.andThen_exc, isTy, bltSem, asLs, asSeq, decide_true, Bool.not_true, Bool.not_false, gMI, gMC, gsub, gfld, gfn, bools_map, h3, idx_L h1]
  rw [call_rt (k := k + 2) t_pick rfl hb, hb_len (hi _ (List.getElem_mem h1)) (by rw [h2.len, h.len])]
def gp (z : Int) : Bool := decide ((10 : Int) ^ 18 ≤ if z < 0 then -z else z)
theorem abs_n (z : Int) : (if z < 0 then -z else z) = ((z.natAbs : Nat) : Int) := by split <;> omega
def gsOf (ns : List Int) : List Nat := (ns.filter gp).map fun z => z.natAbs - 10 ^ 18
def csOf (ns : List Int) : List Nat := ns.map fun z => z.natAbs
theorem s_begun (k : Nat) (ns : List Int) (hl : ns.length ≤ 1000) : callF lt.T (k + 1) "_law_begun" [.wl (ns.map .int)] [] = .ok (.obj 1) (stO (gsOf ns) (csOf ns) 0 0 []) := by
  have hpow : ∀ s, binSem .pow s (.int 10) (.int 18) = some (.int (10 ^ 18)) := fun s => by
    simp only [binSem]
    rw [if_pos ⟨by decide, by decide, by decide⟩]
    rfl
  have hll : ns.length ≤ line := by rw [line_v]; omega
  have c1 : ev (callsOf lt.T k) (.comp true (.bin false .sub (.blt false .abs (.cons (.var 2) .nil)) (.bin false .pow (.int 10) (.int 18))) (.one 2) [2] (.val (.var 0)) (.so (.cmp .ge (.blt false .abs (.cons (.var 2) .nil)) (.bin false .pow (.int 10) (.int 18))))) [.wl (ns.map .int), .und, .und] [] = .ok (.obj 0) [.lst (ni (gsOf ns))] := by
    rw [ev_filt (h := fun z => .int z) (g := fun z => .int ((if z < 0 then -z else z) - 10 ^ 18)) (p := gp) (live := []) ns rfl rfl hll (fun a _ => ⟨[.wl (ns.map .int), .und, .int a], rfl, by
      simp only [ev.eq_1, ev.eq_2, ev.eq_3, ev.eq_4, ev.eq_5, ev.eq_6, ev.eq_7, ev.eq_8, ev.eq_9, ev.eq_10, ev.eq_11, ev.eq_12, ev.eq_13, ev.eq_14, ev.eq_15, ev.eq_16, ev.eq_17, ev.eq_18, ev.eq_19, ev.eq_20, ev.eq_21, ev.eq_22, ev.eq_23, ev.eq_24, ev.eq_25, ev.eq_28, ev.eq_29, exs, evs, evo, evit, Res.bind_ok, Res.bind_exc, Res.sr_ok, Res.sr_exc, List.getElem?_cons_zero, List.getElem?_cons_succ, List.set_cons_zero, List.set_cons_succ, Option.map_some, Option.map_none, Option.bind_some, mkO, mkL, Res.of_some, truth, if_true, Bool.false_eq_true, if_false, SR.andThen_rt, SR.andThen_nx, SR.andThen_exc, isTy, bltSem, asLs, asSeq, decide_true, Bool.not_true, Bool.not_false, gMI, gMC, gsub, gfld, gfn, bools_map, hpow, cmpSem]
      rfl, fun _ => by simp only [ev.eq_1, ev.eq_2, ev.eq_3, ev.eq_4, ev.eq_5, ev.eq_6, ev.eq_7, ev.eq_8, ev.eq_9, ev.eq_10, ev.eq_11, ev.eq_12, ev.eq_13, ev.eq_14, ev.eq_15, ev.eq_16, ev.eq_17, ev.eq_18, ev.eq_19, ev.eq_20, ev.eq_21, ev.eq_22, ev.eq_23, ev.eq_24, ev.eq_25, ev.eq_28, ev.eq_29, exs, evs, evo, evit, Res.bind_ok, Res.bind_exc, Res.sr_ok, Res.sr_exc, List.getElem?_cons_zero, List.getElem?_cons_succ, List.set_cons_zero, List.set_cons_succ, Option.map_some, Option.map_none, Option.bind_some, mkO, mkL, Res.of_some, truth, if_true, Bool.false_eq_true, if_false, SR.andThen_rt, SR.andThen_nx, SR.andThen_exc, isTy, bltSem, asLs, asSeq, decide_true, Bool.not_true, Bool.not_false, gMI, gMC, gsub, gfld, gfn, bools_map, hpow, binSem.eq_2]⟩)]
    have e : ((ns.filter gp).map fun z : Int => PV.int ((if z < 0 then -z else z) - 10 ^ 18)) = ni (gsOf ns) := by
      unfold ni gsOf
      rw [List.map_map]
      refine List.map_congr_left fun z hz => ?_
      have hz' := (List.mem_filter.mp hz).2
      unfold gp at hz'
      rw [decide_eq_true_eq, abs_n] at hz'
      show PV.int _ = PV.int _
      rw [abs_n]
      congr 1
      show _ = ((z.natAbs - 10 ^ 18 : Nat) : Int)
      omega
    rw [e]
    rfl
  have c2 : ∀ s, ev (callsOf lt.T k) (.comp false (.blt false .abs (.cons (.var 2) .nil)) (.one 2) [2] (.val (.var 0)) .no) [.wl (ns.map .int), .obj 0, .und] s = .ok (.lst (ni (csOf ns))) s := fun s => by
    rw [ev_comp (h := fun z => .int z) (g := fun z : Int => .int (z.natAbs : Nat)) (live := []) ns rfl rfl hll (fun a _ => ⟨[.wl (ns.map .int), .obj 0, .int a], rfl, by
      simp only [ev.eq_1, ev.eq_2, ev.eq_3, ev.eq_4, ev.eq_5, ev.eq_6, ev.eq_7, ev.eq_8, ev.eq_9, ev.eq_10, ev.eq_11, ev.eq_12, ev.eq_13, ev.eq_14, ev.eq_15, ev.eq_16, ev.eq_17, ev.eq_18, ev.eq_19, ev.eq_20, ev.eq_21, ev.eq_22, ev.eq_23, ev.eq_24, ev.eq_25, ev.eq_28, ev.eq_29, exs, evs, evo, evit, Res.bind_ok, Res.bind_exc, Res.sr_ok, Res.sr_exc, List.getElem?_cons_zero, List.getElem?_cons_succ, List.set_cons_zero, List.set_cons_succ, Option.map_some, Option.map_none, Option.bind_some, mkO, mkL, Res.of_some, truth, if_true, Bool.false_eq_true, if_false, SR.andThen_rt, SR.andThen_nx, SR.andThen_exc, isTy, bltSem, asLs, asSeq, decide_true, Bool.not_true, Bool.not_false, gMI, gMC, gsub, gfld, gfn, bools_map, abs_n]⟩)]
    congr 2
    unfold ni csOf
    rw [List.map_map]
    rfl
  have hb : exs (callsOf lt.T k) b_law_begun [.wl (ns.map .int), .und, .und] [] = .rt (.obj 1) (stO (gsOf ns) (csOf ns) 0 0 []) := by
    unfold b_law_begun
    simp only [ex.eq_1, ex.eq_2, ex.eq_3, ex.eq_4, ex.eq_5, ex.eq_6, ex.eq_7, ex.eq_9, ex.eq_10, ex.eq_11, ex.eq_12, ex.eq_13, ex.eq_14, ex.eq_15, ex.eq_16, exs, c1, Res.sr_ok, SR.andThen_nx, List.set_cons_succ, List.set_cons_zero, ev.eq_17, evs, ev.eq_5, List.getElem?_cons_succ, List.getElem?_cons_zero, Res.bind_ok, c2, ev.eq_1]
    rfl
  rw [call_rt t_begun rfl hb]
  rfl
theorem hb_bl (s : Store) (b : Bool) (s' : Store) : ∃ s2, handBack s.length s (.bl b) s' = .ok (.bl b) s2 := by
  unfold handBack
  rw [freeze_in (inb_bl _ _)]
  dsimp only
  split
  · exact ⟨_, rfl⟩
  · split <;> exact ⟨_, rfl⟩
end K55

/-! k55: fractions, what the defs compute. -/
namespace K55
open PySem L2 TL SX MP
abbrev ii (n : Nat) : PV := .int (n : Int)
theorem gfuel (k : Nat) : (callsOf lt.T k).fuel = 1000 := by cases k <;> rfl
/-! ### Euclid -/
theorem whl_step {c : MP.Env → Store → Res Bool} {f : MP.Env → Store → SR} {s : Store} (hc : ∀ a b : Nat, c [ii a, ii b] s = .ok (decide (b ≠ 0)) s) (hf : ∀ a b : Nat, b ≠ 0 → f [ii a, ii b] s = .nx [ii b, ii (a % b)] s) (a b n : Nat) :
    whlLoop c f (n + 1) [ii a, ii b] s = if b = 0 then .nx [ii a, ii b] s else whlLoop c f n [ii b, ii (a % b)] s := by
  rw [whlLoop, hc, Res.sr_ok]
  by_cases q : b = 0
  · rw [if_pos q, if_neg (by simp [q])]
  · rw [if_neg q, if_pos (by simp [q]), hf a b q]
theorem mod_half {b r : Nat} {m : Nat} (hr : 0 < r) (hrb : r < b) (hb : b < 2 ^ (m + 1)) : b % r < 2 ^ m := by
  have h1 : b % r < r := Nat.mod_lt _ hr
  have h2 : r * (b / r) + b % r = b := Nat.div_add_mod b r
  have h3 : 1 ≤ b / r := (Nat.le_div_iff_mul_le hr).mpr (by omega)
  have h4 : r ≤ r * (b / r) := Nat.le_mul_of_pos_right r h3
  have h5 : (2 : Nat) ^ (m + 1) = 2 ^ m * 2 := Nat.pow_succ 2 m
  omega
theorem whl_gcd {c : MP.Env → Store → Res Bool} {f : MP.Env → Store → SR} {s : Store} (hc : ∀ a b : Nat, c [ii a, ii b] s = .ok (decide (b ≠ 0)) s) (hf : ∀ a b : Nat, b ≠ 0 → f [ii a, ii b] s = .nx [ii b, ii (a % b)] s) :
    ∀ (m a b n : Nat), b < 2 ^ m → 2 * m + 1 ≤ n → whlLoop c f n [ii a, ii b] s = .nx [ii (Nat.gcd a b), ii 0] s := by
  intro m
  induction m with
  | zero =>
    intro a b n hb hn
    obtain rfl : b = 0 := by omega
    obtain ⟨n, rfl⟩ : ∃ k, n = k + 1 := ⟨n - 1, by omega⟩
    rw [whl_step hc hf, if_pos rfl, Nat.gcd_zero_right]
  | succ m ih =>
    intro a b n hb hn
    obtain ⟨n, rfl⟩ : ∃ k, n = k + 1 + 1 := ⟨n - 2, by omega⟩
    rw [whl_step hc hf]
    by_cases q : b = 0
    · subst q
      rw [if_pos rfl, Nat.gcd_zero_right]
    · rw [if_neg q, whl_step hc hf]
      have hg : Nat.gcd a b = Nat.gcd b (a % b) := by rw [Nat.gcd_comm a b, Nat.gcd_rec b a, Nat.gcd_comm]
      by_cases q2 : a % b = 0
      · rw [if_pos q2, hg, q2, Nat.gcd_zero_right]
      · have hlt : a % b < b := Nat.mod_lt _ (by omega)
        rw [if_neg q2, ih (a % b) (b % (a % b)) n (mod_half (by omega) hlt hb) (by omega), hg, Nat.gcd_comm b (a % b), Nat.gcd_rec (a % b) b, Nat.gcd_comm]
def gI (a b : Int) : Int := ((Nat.gcd a.natAbs b.natAbs : Nat) : Int)
theorem t_cd : lt.T.fn "common_divisor" = some ⟨2, 2, b_f_common_divisor⟩ := by rfl
def cCond : IE := .cmp .ne (.var 1) (.int 0)
def cBody : ISs := .cons (.par 0 1 (.var 1) (.bin false .mod (.var 0) (.var 1))) .nil
theorem ne_0 (s : Store) (b : Nat) : eqv s (ii b) (.int 0) = some (decide (b = 0)) := by
  show some (decide ((b : Int) = 0)) = _
  congr 1
  exact decide_eq_decide.mpr (by omega)
theorem c_cond (k : Nat) (s : Store) (a b : Nat) : ((ev (callsOf lt.T k) cCond [ii a, ii b] s).bind fun x s => Res.of (truth s x) s) = .ok (decide (b ≠ 0)) s := by
  simp only [cCond, ev.eq_1, ev.eq_2, ev.eq_3, ev.eq_4, ev.eq_5, ev.eq_6, ev.eq_7, ev.eq_8, ev.eq_9, ev.eq_10, ev.eq_11, ev.eq_12, ev.eq_13, ev.eq_14, ev.eq_15, ev.eq_16, ev.eq_17, ev.eq_18, ev.eq_19, ev.eq_20, ev.eq_21, ev.eq_22, ev.eq_23, ev.eq_24, ev.eq_25, ev.eq_28, ev.eq_29, exs, evs, evo, evit, Res.bind_ok, Res.bind_exc, Res.sr_ok, Res.sr_exc, List.getElem?_cons_zero, List.getElem?_cons_succ, List.set_cons_zero, List.set_cons_succ, Option.map_some, Option.map_none, Option.bind_some, mkO, mkL, Res.of_some, truth, if_true, Bool.false_eq_true, if_false, SR.andThen_rt, SR.andThen_nx, SR.andThen_exc, isTy, bltSem, asLs, asSeq, decide_true, Bool.not_true, Bool.not_false, gMI, gMC, gsub, gfld, gfn, bools_map, cmpSem, ne_0]
  simp
theorem c_body (k : Nat) (s : Store) (a b : Nat) (hb : b ≠ 0) : exs (callsOf lt.T k) cBody [ii a, ii b] s = .nx [ii b, ii (a % b)] s := by
  have e : binSem .mod s (ii a) (ii b) = some (ii (a % b)) := by
    show (if 0 < (b : Int) then some (PV.int ((a : Int) % (b : Int))) else none) = _
    rw [if_pos (by omega)]
    simp
  simp only [cBody, ev.eq_1, ev.eq_2, ev.eq_3, ev.eq_4, ev.eq_5, ev.eq_6, ev.eq_7, ev.eq_8, ev.eq_9, ev.eq_10, ev.eq_11, ev.eq_12, ev.eq_13, ev.eq_14, ev.eq_15, ev.eq_16, ev.eq_17, ev.eq_18, ev.eq_19, ev.eq_20, ev.eq_21, ev.eq_22, ev.eq_23, ev.eq_24, ev.eq_25, ev.eq_28, ev.eq_29, ex.eq_1, ex.eq_2, ex.eq_3, ex.eq_4, ex.eq_5, ex.eq_6, ex.eq_7, ex.eq_9, ex.eq_10, ex.eq_11, ex.eq_12, ex.eq_13, ex.eq_14, ex.eq_15, ex.eq_16, exs, evs, evo, evit, Res.bind_ok, Res.bind_exc, Res.sr_ok, Res.sr_exc, List.getElem?_cons_zero, List.getElem?_cons_succ, List.set_cons_zero, List.set_cons_succ, Option.map_some, Option.map_none, Option.bind_some, mkO, mkL, Res.of_some, truth, if_true, Bool.false_eq_true, if_false, SR.andThen_rt, SR.andThen_nx, SR.andThen_exc, isTy, bltSem, asLs, asSeq, decide_true, Bool.not_true, Bool.not_false, gMI, gMC, gsub, gfld, gfn, bools_map, e]
theorem s_cd (k : Nat) (a b : Int) (hb : b.natAbs < 2 ^ 499) (s : Store) : callF lt.T (k + 1) "common_divisor" [.int a, .int b] s = .ok (.int (gI a b)) s := by
  have hw : ex (callsOf lt.T k) (.whl cCond cBody) [ii a.natAbs, ii b.natAbs] s = .nx [ii (Nat.gcd a.natAbs b.natAbs), ii 0] s := by
    rw [ex.eq_9, gfuel]
    exact whl_gcd (c_cond k s) (c_body k s) 499 _ _ _ hb (by decide)
  have hrun : exs (callsOf lt.T k) b_f_common_divisor [.int a, .int b] s = .rt (.int (gI a b)) s := by
    show exs (callsOf lt.T k) (.cons (.par 0 1 (.blt false .abs (.cons (.var 0) .nil)) (.blt false .abs (.cons (.var 1) .nil))) (.cons (.whl cCond cBody) (.cons (.ret (.var 0)) .nil))) [.int a, .int b] s = _
    simp only [exs, ex.eq_4, ex.eq_10, ev.eq_1, ev.eq_2, ev.eq_3, ev.eq_4, ev.eq_5, ev.eq_6, ev.eq_7, ev.eq_8, ev.eq_9, ev.eq_10, ev.eq_11, ev.eq_12, ev.eq_13, ev.eq_14, ev.eq_15, ev.eq_16, ev.eq_17, ev.eq_18, ev.eq_19, ev.eq_20, ev.eq_21, ev.eq_22, ev.eq_23, ev.eq_24, ev.eq_25, ev.eq_28, ev.eq_29, exs, evs, evo, evit, Res.bind_ok, Res.bind_exc, Res.sr_ok, Res.sr_exc, List.getElem?_cons_zero, List.getElem?_cons_succ, List.set_cons_zero, List.set_cons_succ, Option.map_some, Option.map_none, Option.bind_some, mkO, mkL, Res.of_some, truth, if_true, Bool.false_eq_true, if_false, SR.andThen_rt, SR.andThen_nx, SR.andThen_exc, isTy, bltSem, asLs, asSeq, decide_true, Bool.not_true, Bool.not_false, gMI, gMC, gsub, gfld, gfn, bools_map, abs_n, hw]
    rfl
  exact call_pure t_cd rfl (inb_int _ _) hrun
/-! ### lowest terms -/
def Q (p : Int × Int) : PV := .tup [.int p.1, .int p.2]
def lowP (n d : Int) : Int × Int := ((if d < 0 then -n else n) / gI n d, (d.natAbs : Int) / gI n d)
theorem gI_pos {n d : Int} (hd : d ≠ 0) : 0 < gI n d := by
  have : 0 < Nat.gcd n.natAbs d.natAbs := Nat.gcd_pos_of_pos_right _ (by omega)
  unfold gI
  omega
theorem gI_le {n d : Int} (hd : d ≠ 0) : (gI n d).natAbs ≤ d.natAbs := by
  unfold gI
  rw [Int.natAbs_natCast]
  exact Nat.le_of_dvd (by omega) (Nat.gcd_dvd_right _ _)
theorem bits_a {i : Int} {m : Nat} (h : i.natAbs < 2 ^ (m + 1)) : bits i ≤ m := by
  unfold bits
  by_cases q : i.natAbs = 0
  · rw [q]; simp
  · have := (Nat.log2_lt q).mpr h
    omega
theorem fdiv_ok (s : Store) (x g : Int) (h : 0 < g) (hb : g.natAbs < 2 ^ 500) : binSem .fdiv s (.int x) (.int g) = some (.int (x / g)) := by
  show (if 0 < g ∧ bits g < 9000 then some (PV.int (x / g)) else none) = _
  rw [if_pos ⟨h, by have := bits_a (m := 499) hb; omega⟩]
theorem t_red : lt.T.fn "reduced" = some ⟨2, 3, b_f_reduced⟩ := by rfl
theorem inb_Q (n : Nat) (p : Int × Int) : PV.inb n (Q p) = true := by simp [Q, PV.inb, PV.inbs]
theorem two_le : (2 : Nat) ≤ line := by rw [line_v]; decide
theorem cmp_lt_i (s : Store) (a b : Int) : cmpSem .lt s (.int a) (.int b) = some (decide (a < b)) := by rfl
theorem s_red (k : Nat) (n d : Int) (hd : d ≠ 0) (hb : d.natAbs < 2 ^ 499) (s : Store) : callF lt.T (k + 2) "reduced" [.int n, .int d] s = .ok (Q (lowP n d)) s := by
  have hg := gI_pos (n := n) hd
  have hgl := gI_le (n := n) hd
  have hgb : (gI n d).natAbs < 2 ^ 500 := by
    have : (2 : Nat) ^ 499 < 2 ^ 500 := Nat.pow_lt_pow_right (by decide) (by decide)
    omega
  have hrun : exs (callsOf lt.T (k + 1)) b_f_reduced [.int n, .int d, .und] s = .rt (Q (lowP n d)) s := by
    by_cases q : d < 0
    · have c1 := s_cd k (-n) (-d) (by rw [Int.natAbs_neg]; exact hb) s
      have e1 : gI (-n) (-d) = gI n d := by unfold gI; rw [Int.natAbs_neg, Int.natAbs_neg]
      rw [e1] at c1
      have f1 := fdiv_ok s (-n) _ hg hgb
      have f2 := fdiv_ok s (-d) _ hg hgb
      have e2 : (-d) / gI n d = (d.natAbs : Int) / gI n d := by rw [show (-d) = (d.natAbs : Int) by omega]
      have hl : ([PV.int (-n / gI n d), PV.int (-d / gI n d)] : List PV).length ≤ line := two_le
      simp only [b_f_reduced, ev.eq_1, ev.eq_2, ev.eq_3, ev.eq_4, ev.eq_5, ev.eq_6, ev.eq_7, ev.eq_8, ev.eq_9, ev.eq_10, ev.eq_11, ev.eq_12, ev.eq_13, ev.eq_14, ev.eq_15, ev.eq_16, ev.eq_17, ev.eq_18, ev.eq_19, ev.eq_20, ev.eq_21, ev.eq_22, ev.eq_23, ev.eq_24, ev.eq_25, ev.eq_28, ev.eq_29, ex.eq_1, ex.eq_2, ex.eq_3, ex.eq_4, ex.eq_5, ex.eq_6, ex.eq_7, ex.eq_9, ex.eq_10, ex.eq_11, ex.eq_12, ex.eq_13, ex.eq_14, ex.eq_15, ex.eq_16, exs, evs, evo, evit, Res.bind_ok, Res.bind_exc, Res.sr_ok, Res.sr_exc, List.getElem?_cons_zero, List.getElem?_cons_succ, List.set_cons_zero, List.set_cons_succ, Option.map_some, Option.map_none, Option.bind_some, mkO, mkL, Res.of_some, truth, if_true, Bool.false_eq_true, if_false, SR.andThen_rt, SR.andThen_nx, SR.andThen_exc, isTy, bltSem, asLs, asSeq, decide_true, Bool.not_true, Bool.not_false, gMI, gMC, gsub, gfld, gfn, bools_map, cmp_lt_i, decide_eq_true q, c1, f1, f2, hl]
      unfold Q lowP
      rw [if_pos q, e2]
    · have c1 := s_cd k n d hb s
      have f1 := fdiv_ok s n _ hg hgb
      have f2 := fdiv_ok s d _ hg hgb
      have e2 : d / gI n d = (d.natAbs : Int) / gI n d := by rw [show (d.natAbs : Int) = d by omega]
      have hl : ([PV.int (n / gI n d), PV.int (d / gI n d)] : List PV).length ≤ line := two_le
      simp only [b_f_reduced, ev.eq_1, ev.eq_2, ev.eq_3, ev.eq_4, ev.eq_5, ev.eq_6, ev.eq_7, ev.eq_8, ev.eq_9, ev.eq_10, ev.eq_11, ev.eq_12, ev.eq_13, ev.eq_14, ev.eq_15, ev.eq_16, ev.eq_17, ev.eq_18, ev.eq_19, ev.eq_20, ev.eq_21, ev.eq_22, ev.eq_23, ev.eq_24, ev.eq_25, ev.eq_28, ev.eq_29, ex.eq_1, ex.eq_2, ex.eq_3, ex.eq_4, ex.eq_5, ex.eq_6, ex.eq_7, ex.eq_9, ex.eq_10, ex.eq_11, ex.eq_12, ex.eq_13, ex.eq_14, ex.eq_15, ex.eq_16, exs, evs, evo, evit, Res.bind_ok, Res.bind_exc, Res.sr_ok, Res.sr_exc, List.getElem?_cons_zero, List.getElem?_cons_succ, List.set_cons_zero, List.set_cons_succ, Option.map_some, Option.map_none, Option.bind_some, mkO, mkL, Res.of_some, truth, if_true, Bool.false_eq_true, if_false, SR.andThen_rt, SR.andThen_nx, SR.andThen_exc, isTy, bltSem, asLs, asSeq, decide_true, Bool.not_true, Bool.not_false, gMI, gMC, gsub, gfld, gfn, bools_map, cmp_lt_i, decide_eq_false q, c1, f1, f2, hl]
      unfold Q lowP
      rw [if_neg q, e2]
  exact call_pure t_red rfl (inb_Q _ _) hrun
end K55

namespace K55
open PySem L2 TL SX MP
theorem isT_v (sub : Str → Str → Option Bool) (s : Store) (T : String) (v : PV) : bltSem sub (.isT T) s [v] = (isTy s T v).map .bl := by rfl
theorem t_whole : lt.T.fn "is_whole" = some ⟨1, 1, b_f_is_whole⟩ := by rfl
theorem whole_run (k : Nat) (s : Store) (v : PV) (i b : Bool) (hv : v ≠ .und) (h1 : isTy s "int" v = some i) (h2 : isTy s "bool" v = some b) : exs (callsOf lt.T k) b_f_is_whole [v] s = .rt (.bl (i && !b)) s := by
  have e := ev_v (C := callsOf lt.T k) (i := 0) (env := [v]) (s := s) rfl hv
  have a1 : ev (callsOf lt.T k) (.blt false (.isT "int") (.cons (.var 0) .nil)) [v] s = .ok (.bl i) s := by
    rw [ev.eq_21, evs, e, Res.bind_ok, evs, Res.bind_ok, Res.bind_ok, isT_v, h1]
    rfl
  have a2 : ev (callsOf lt.T k) (.blt false (.isT "bool") (.cons (.var 0) .nil)) [v] s = .ok (.bl b) s := by
    rw [ev.eq_21, evs, e, Res.bind_ok, evs, Res.bind_ok, Res.bind_ok, isT_v, h2]
    rfl
  cases i <;> cases b <;> simp only [b_f_is_whole, exs, ex.eq_10, ev.eq_10, ev.eq_9, a1, a2, exs, evs, evo, evit, Res.bind_ok, Res.bind_exc, Res.sr_ok, Res.sr_exc, List.getElem?_cons_zero, List.getElem?_cons_succ, List.set_cons_zero, List.set_cons_succ, Option.map_some, Option.map_none, Option.bind_some, mkO, mkL, Res.of_some, truth, if_true, Bool.false_eq_true, if_false, SR.andThen_rt, SR.andThen_nx, SR.andThen_exc, isTy, bltSem, asLs, asSeq, decide_true, Bool.not_true, Bool.not_false, gMI, gMC, gsub, gfld, gfn, bools_map] <;> rfl
theorem s_whole (k : Nat) (s : Store) (v : PV) (i b : Bool) (hv : v ≠ .und) (h1 : isTy s "int" v = some i) (h2 : isTy s "bool" v = some b) : callF lt.T (k + 1) "is_whole" [v] s = .ok (.bl (i && !b)) s :=
  call_pure t_whole rfl (inb_bl _ _) (whole_run k s v i b hv h1 h2)
def SmP (a b : Int) : Prop := a.natAbs < 2 ^ 499 ∧ b.natAbs < 2 ^ 499
/-! ### the kinds of values -/
structure Ty (s : Store) (x : PV) (i : Bool) : Prop where
  nu : x ≠ .und
  ty : ∃ a b, isTy s "int" x = some a ∧ isTy s "bool" x = some b ∧ (a && !b) = i
inductive Vl (s : Store) : PV → Prop
  | no {v : PV} : v ≠ .und → isTy s "tuple" v = some false → Vl s v
  | len {xs : List PV} : xs.length ≠ 2 → Vl s (.tup xs)
  | two {x y : PV} {i j : Bool} : Ty s x i → Ty s y j → (i && j) = false → Vl s (.tup [x, y])
  | pair {a b : Int} : SmP a b → Vl s (.tup [.int a, .int b])
def frB (a b : Int) : Bool := decide (1 ≤ b) && decide (gI a b = 1)
def mostB (m : Option Int) (a b : Int) : Bool := match m with
  | none => true
  | some m => decide ((a.natAbs : Int) ≤ m) && decide (b ≤ m)
/-- the answer: is v a fraction, at most so great -/
def isF (m : Option Int) : PV → Bool
  | .tup [.int a, .int b] => frB a b && mostB m a b
  | _ => false
theorem isF_no {s : Store} {m : Option Int} {v : PV} (h : isTy s "tuple" v = some false) : isF m v = false := by
  cases v <;> first | rfl | skip
  simp [isTy] at h
theorem isF_len {m : Option Int} {xs : List PV} (h : xs.length ≠ 2) : isF m (.tup xs) = false := by
  unfold isF
  split
  · rename_i a b e
    injection e with e
    rw [e] at h
    exact absurd rfl h
  · rfl
theorem isF_two {s : Store} {m : Option Int} {x y : PV} {i j : Bool} (hx : Ty s x i) (hy : Ty s y j) (h : (i && j) = false) : isF m (.tup [x, y]) = false := by
  obtain ⟨_, a, b, h1, h2, rfl⟩ := hx
  obtain ⟨_, c, d, h3, h4, rfl⟩ := hy
  unfold isF
  split
  · rename_i p q e
    injection e with e
    injection e with e1 e2
    injection e2 with e2 e3
    subst e1 e2
    simp [isTy] at h1 h2 h3 h4
    subst h1 h2 h3 h4
    simp at h
  · rfl
theorem idx0 (s : Store) (x y : PV) : idxSem s (.tup [x, y]) (.int 0) = some x := by rfl
theorem idx1 (s : Store) (x y : PV) : idxSem s (.tup [x, y]) (.int 1) = some y := by rfl
theorem t_tupof : lt.T.fn "is_tuple_of" = some ⟨2, 2, b_f_is_tuple_of⟩ := by rfl
theorem s_tupof_no (k : Nat) (s : Store) (v : PV) (hv : v ≠ .und) (h : isTy s "tuple" v = some false) : callF lt.T (k + 1) "is_tuple_of" [v, .int 2] s = .ok (.bl false) s := by
  refine call_pure t_tupof rfl (inb_bl _ _) ?_
  show exs (callsOf lt.T k) b_f_is_tuple_of [v, .int 2] s = _
  have e := ev_v (C := callsOf lt.T k) (i := 0) (env := [v, .int 2]) (s := s) rfl hv
  have a1 : ev (callsOf lt.T k) (.blt false (.isT "tuple") (.cons (.var 0) .nil)) [v, .int 2] s = .ok (.bl false) s := by
    rw [ev.eq_21, evs, e, Res.bind_ok, evs, Res.bind_ok, Res.bind_ok, isT_v, h]
    rfl
  simp only [b_f_is_tuple_of, exs, ex.eq_10, ev.eq_10, a1, exs, evs, evo, evit, Res.bind_ok, Res.bind_exc, Res.sr_ok, Res.sr_exc, List.getElem?_cons_zero, List.getElem?_cons_succ, List.set_cons_zero, List.set_cons_succ, Option.map_some, Option.map_none, Option.bind_some, mkO, mkL, Res.of_some, truth, if_true, Bool.false_eq_true, if_false, SR.andThen_rt, SR.andThen_nx, SR.andThen_exc, isTy, bltSem, asLs, asSeq, decide_true, Bool.not_true, Bool.not_false, gMI, gMC, gsub, gfld, gfn, bools_map]
theorem s_tupof (k : Nat) (s : Store) (xs : List PV) : callF lt.T (k + 1) "is_tuple_of" [.tup xs, .int 2] s = .ok (.bl (decide (xs.length = 2))) s := by
  refine call_pure t_tupof rfl (inb_bl _ _) ?_
  show exs (callsOf lt.T k) b_f_is_tuple_of [.tup xs, .int 2] s = _
  have e : eqv s (.int (xs.length : Nat)) (.int 2) = some (decide (xs.length = 2)) := by
    show some (decide ((xs.length : Int) = 2)) = _
    congr 1
    exact decide_eq_decide.mpr (by omega)
  simp only [b_f_is_tuple_of, ev.eq_1, ev.eq_2, ev.eq_3, ev.eq_4, ev.eq_5, ev.eq_6, ev.eq_7, ev.eq_8, ev.eq_9, ev.eq_10, ev.eq_11, ev.eq_12, ev.eq_13, ev.eq_14, ev.eq_15, ev.eq_16, ev.eq_17, ev.eq_18, ev.eq_19, ev.eq_20, ev.eq_21, ev.eq_22, ev.eq_23, ev.eq_24, ev.eq_25, ev.eq_28, ev.eq_29, ex.eq_1, ex.eq_2, ex.eq_3, ex.eq_4, ex.eq_5, ex.eq_6, ex.eq_7, ex.eq_9, ex.eq_10, ex.eq_11, ex.eq_12, ex.eq_13, ex.eq_14, ex.eq_15, ex.eq_16, exs, evs, evo, evit, Res.bind_ok, Res.bind_exc, Res.sr_ok, Res.sr_exc, List.getElem?_cons_zero, List.getElem?_cons_succ, List.set_cons_zero, List.set_cons_succ, Option.map_some, Option.map_none, Option.bind_some, mkO, mkL, Res.of_some, truth, if_true, Bool.false_eq_true, if_false, SR.andThen_rt, SR.andThen_nx, SR.andThen_exc, isTy, bltSem, asLs, asSeq, decide_true, Bool.not_true, Bool.not_false, gMI, gMC, gsub, gfld, gfn, bools_map, cmpSem, e]
theorem t_isfr : lt.T.fn "is_fraction" = some ⟨1, 1, b_f_is_fraction⟩ := by rfl
theorem nt_b (b : Bool) : (if (!b) = true then true else false) = !b := by cases b <;> rfl
theorem s_isfr (k : Nat) (s : Store) (v : PV) (h : Vl s v) : callF lt.T (k + 3) "is_fraction" [v] s = .ok (.bl (isF none v)) s := by
  refine call_pure t_isfr rfl (inb_bl _ _) ?_
  show exs (callsOf lt.T (k + 2)) b_f_is_fraction [v] s = _
  cases h with
  | no hv h =>
    rw [isF_no h]
    have e := ev_v (C := callsOf lt.T (k + 2)) (i := 0) (env := [v]) (s := s) rfl hv
    have c := s_tupof_no (k + 1) s v hv h
    simp only [b_f_is_fraction, ex.eq_1, ex.eq_2, ex.eq_3, ex.eq_4, ex.eq_5, ex.eq_6, ex.eq_7, ex.eq_9, ex.eq_10, ex.eq_11, ex.eq_12, ex.eq_13, ex.eq_14, ex.eq_15, ex.eq_16, ev.eq_11, ev.eq_9, ev.eq_18, evs, e, ev.eq_1, ev.eq_3, exs, evs, evo, evit, Res.bind_ok, Res.bind_exc, Res.sr_ok, Res.sr_exc, List.getElem?_cons_zero, List.getElem?_cons_succ, List.set_cons_zero, List.set_cons_succ, Option.map_some, Option.map_none, Option.bind_some, mkO, mkL, Res.of_some, truth, if_true, Bool.false_eq_true, if_false, SR.andThen_rt, SR.andThen_nx, SR.andThen_exc, isTy, bltSem, asLs, asSeq, decide_true, Bool.not_true, Bool.not_false, gMI, gMC, gsub, gfld, gfn, bools_map, c]
  | len h =>
    rw [isF_len h]
    have c := s_tupof (k + 1) s ‹List PV›
    rw [decide_eq_false h] at c
    simp only [b_f_is_fraction, ex.eq_1, ex.eq_2, ex.eq_3, ex.eq_4, ex.eq_5, ex.eq_6, ex.eq_7, ex.eq_9, ex.eq_10, ex.eq_11, ex.eq_12, ex.eq_13, ex.eq_14, ex.eq_15, ex.eq_16, ev.eq_1, ev.eq_2, ev.eq_3, ev.eq_4, ev.eq_5, ev.eq_6, ev.eq_7, ev.eq_8, ev.eq_9, ev.eq_10, ev.eq_11, ev.eq_12, ev.eq_13, ev.eq_14, ev.eq_15, ev.eq_16, ev.eq_17, ev.eq_18, ev.eq_19, ev.eq_20, ev.eq_21, ev.eq_22, ev.eq_23, ev.eq_24, ev.eq_25, ev.eq_28, ev.eq_29, exs, evs, evo, evit, Res.bind_ok, Res.bind_exc, Res.sr_ok, Res.sr_exc, List.getElem?_cons_zero, List.getElem?_cons_succ, List.set_cons_zero, List.set_cons_succ, Option.map_some, Option.map_none, Option.bind_some, mkO, mkL, Res.of_some, truth, if_true, Bool.false_eq_true, if_false, SR.andThen_rt, SR.andThen_nx, SR.andThen_exc, isTy, bltSem, asLs, asSeq, decide_true, Bool.not_true, Bool.not_false, gMI, gMC, gsub, gfld, gfn, bools_map, c]
  | @two x y i j hx hy h =>
    rw [isF_two hx hy h]
    have c := s_tupof (k + 1) s [x, y]
    obtain ⟨nx, a1, b1, x1, x2, rfl⟩ := hx
    obtain ⟨ny, a2, b2, y1, y2, rfl⟩ := hy
    have c1 := s_whole (k + 1) s x a1 b1 nx x1 x2
    have c2 := s_whole (k + 1) s y a2 b2 ny y1 y2
    have d : decide (([x, y] : List PV).length = 2) = true := rfl
    rw [d] at c
    cases q : (a1 && !b1) with
    | false =>
      rw [q] at c1
      simp only [b_f_is_fraction, ex.eq_1, ex.eq_2, ex.eq_3, ex.eq_4, ex.eq_5, ex.eq_6, ex.eq_7, ex.eq_9, ex.eq_10, ex.eq_11, ex.eq_12, ex.eq_13, ex.eq_14, ex.eq_15, ex.eq_16, ev.eq_1, ev.eq_2, ev.eq_3, ev.eq_4, ev.eq_5, ev.eq_6, ev.eq_7, ev.eq_8, ev.eq_9, ev.eq_10, ev.eq_11, ev.eq_12, ev.eq_13, ev.eq_14, ev.eq_15, ev.eq_16, ev.eq_17, ev.eq_18, ev.eq_19, ev.eq_20, ev.eq_21, ev.eq_22, ev.eq_23, ev.eq_24, ev.eq_25, ev.eq_28, ev.eq_29, exs, evs, evo, evit, Res.bind_ok, Res.bind_exc, Res.sr_ok, Res.sr_exc, List.getElem?_cons_zero, List.getElem?_cons_succ, List.set_cons_zero, List.set_cons_succ, Option.map_some, Option.map_none, Option.bind_some, mkO, mkL, Res.of_some, truth, if_true, Bool.false_eq_true, if_false, SR.andThen_rt, SR.andThen_nx, SR.andThen_exc, isTy, bltSem, asLs, asSeq, decide_true, Bool.not_true, Bool.not_false, gMI, gMC, gsub, gfld, gfn, bools_map, c, idx0, idx1, c1]
    | true =>
      rw [q] at c1 h
      have q2 : (a2 && !b2) = false := by simpa using h
      rw [q2] at c2
      simp only [b_f_is_fraction, ex.eq_1, ex.eq_2, ex.eq_3, ex.eq_4, ex.eq_5, ex.eq_6, ex.eq_7, ex.eq_9, ex.eq_10, ex.eq_11, ex.eq_12, ex.eq_13, ex.eq_14, ex.eq_15, ex.eq_16, ev.eq_1, ev.eq_2, ev.eq_3, ev.eq_4, ev.eq_5, ev.eq_6, ev.eq_7, ev.eq_8, ev.eq_9, ev.eq_10, ev.eq_11, ev.eq_12, ev.eq_13, ev.eq_14, ev.eq_15, ev.eq_16, ev.eq_17, ev.eq_18, ev.eq_19, ev.eq_20, ev.eq_21, ev.eq_22, ev.eq_23, ev.eq_24, ev.eq_25, ev.eq_28, ev.eq_29, exs, evs, evo, evit, Res.bind_ok, Res.bind_exc, Res.sr_ok, Res.sr_exc, List.getElem?_cons_zero, List.getElem?_cons_succ, List.set_cons_zero, List.set_cons_succ, Option.map_some, Option.map_none, Option.bind_some, mkO, mkL, Res.of_some, truth, if_true, Bool.false_eq_true, if_false, SR.andThen_rt, SR.andThen_nx, SR.andThen_exc, isTy, bltSem, asLs, asSeq, decide_true, Bool.not_true, Bool.not_false, gMI, gMC, gsub, gfld, gfn, bools_map, c, idx0, idx1, c1, c2]
  | @pair a b hs =>
    have c := s_tupof (k + 1) s [.int a, .int b]
    have d : decide (([PV.int a, PV.int b] : List PV).length = 2) = true := rfl
    rw [d] at c
    have c1 := s_whole (k + 1) s (.int a) true false (by intro z; cases z) rfl rfl
    have c2 := s_whole (k + 1) s (.int b) true false (by intro z; cases z) rfl rfl
    have d1 : (true && !false) = true := rfl
    rw [d1] at c1 c2
    have cg := s_cd (k + 1) a b hs.2 s
    have e1 : cmpSem .lt s (.int b) (.int 1) = some (decide (b < 1)) := by rfl
    have e2 : cmpSem .eq s (.int (gI a b)) (.int 1) = some (decide (gI a b = 1)) := by rfl
    show exs (callsOf lt.T (k + 2)) b_f_is_fraction [.tup [.int a, .int b]] s = .rt (.bl (frB a b && true)) s
    unfold frB
    by_cases q : b < 1
    · rw [decide_eq_true q] at e1
      rw [decide_eq_false (show ¬ 1 ≤ b by omega)]
      simp only [b_f_is_fraction, ex.eq_1, ex.eq_2, ex.eq_3, ex.eq_4, ex.eq_5, ex.eq_6, ex.eq_7, ex.eq_9, ex.eq_10, ex.eq_11, ex.eq_12, ex.eq_13, ex.eq_14, ex.eq_15, ex.eq_16, ev.eq_1, ev.eq_2, ev.eq_3, ev.eq_4, ev.eq_5, ev.eq_6, ev.eq_7, ev.eq_8, ev.eq_9, ev.eq_10, ev.eq_11, ev.eq_12, ev.eq_13, ev.eq_14, ev.eq_15, ev.eq_16, ev.eq_17, ev.eq_18, ev.eq_19, ev.eq_20, ev.eq_21, ev.eq_22, ev.eq_23, ev.eq_24, ev.eq_25, ev.eq_28, ev.eq_29, exs, evs, evo, evit, Res.bind_ok, Res.bind_exc, Res.sr_ok, Res.sr_exc, List.getElem?_cons_zero, List.getElem?_cons_succ, List.set_cons_zero, List.set_cons_succ, Option.map_some, Option.map_none, Option.bind_some, mkO, mkL, Res.of_some, truth, if_true, Bool.false_eq_true, if_false, SR.andThen_rt, SR.andThen_nx, SR.andThen_exc, isTy, bltSem, asLs, asSeq, decide_true, Bool.not_true, Bool.not_false, gMI, gMC, gsub, gfld, gfn, bools_map, c, idx0, idx1, c1, c2, e1]
      rfl
    · rw [decide_eq_false q] at e1
      rw [decide_eq_true (show 1 ≤ b by omega)]
      simp only [b_f_is_fraction, ex.eq_1, ex.eq_2, ex.eq_3, ex.eq_4, ex.eq_5, ex.eq_6, ex.eq_7, ex.eq_9, ex.eq_10, ex.eq_11, ex.eq_12, ex.eq_13, ex.eq_14, ex.eq_15, ex.eq_16, ev.eq_1, ev.eq_2, ev.eq_3, ev.eq_4, ev.eq_5, ev.eq_6, ev.eq_7, ev.eq_8, ev.eq_9, ev.eq_10, ev.eq_11, ev.eq_12, ev.eq_13, ev.eq_14, ev.eq_15, ev.eq_16, ev.eq_17, ev.eq_18, ev.eq_19, ev.eq_20, ev.eq_21, ev.eq_22, ev.eq_23, ev.eq_24, ev.eq_25, ev.eq_28, ev.eq_29, exs, evs, evo, evit, Res.bind_ok, Res.bind_exc, Res.sr_ok, Res.sr_exc, List.getElem?_cons_zero, List.getElem?_cons_succ, List.set_cons_zero, List.set_cons_succ, Option.map_some, Option.map_none, Option.bind_some, mkO, mkL, Res.of_some, truth, if_true, Bool.false_eq_true, if_false, SR.andThen_rt, SR.andThen_nx, SR.andThen_exc, isTy, bltSem, asLs, asSeq, decide_true, Bool.not_true, Bool.not_false, gMI, gMC, gsub, gfld, gfn, bools_map, c, idx0, idx1, c1, c2, e1, cg, e2]
      simp
end K55

/-! k55: code, and what looks at it. -/
namespace K55
open PySem L2 TL SX MP
inductive Row where
  | sum (ts : List (Int × Nat)) (b : Int) (f : Nat) | rest (c : Nat) | gr (cs : List Nat)
def tV (t : Int × Nat) : PV := .tup [.int t.1, ii t.2]
def rowV : Row → PV
  | .sum ts b f => .tup [.str "sum", .tup (ts.map tV), .int b, ii f]
  | .rest c => .tup [.str "rest", ii c]
  | .gr cs => .tup [.str "greatest", .tup (cs.map ii)]
structure Code where
  n : Nat
  rows : List Row
  outs : List Nat
def codeV (c : Code) : PV := .tup [ii c.n, .tup (c.rows.map rowV), .tup (c.outs.map ii)]
def readR : Row → List Nat
  | .sum ts _ _ => ts.map (·.2)
  | .rest c => [c]
  | .gr cs => cs
def fR : Row → Nat
  | .sum _ _ f => f
  | _ => 1
def headR (r : Row) : Nat := (readR r).headD 0
def nextF (fs : List Nat) (r : Row) : Nat := fs.getD (headR r) 0 * fR r
def facs : List Nat → List Row → List Nat
  | fs, [] => fs
  | fs, r :: rs => facs (fs ++ [nextF fs r]) rs
/-- a row that is right over cells with such factors -/
structure OkR (fs : List Nat) (r : Row) : Prop where
  ne : readR r ≠ []
  lt : ∀ c ∈ readR r, c < fs.length
  eq : ∀ c ∈ readR r, fs.getD c 0 = fs.getD (headR r) 0
  nd : (readR r).Nodup
  len : (readR r).length < 64
  up : match r with
    | .sum ts b f => (ts.map (·.2)).Pairwise (· < ·) ∧ (∀ t ∈ ts, t.1.natAbs < 2 ^ 134) ∧ b.natAbs < 2 ^ 134 ∧ 0 < f ∧ f < 2 ^ 5
    | _ => True
def OkRs : List Nat → List Row → Prop
  | _, [] => True
  | fs, r :: rs => OkR fs r ∧ OkRs (fs ++ [nextF fs r]) rs
structure OkC (c : Code) : Prop where
  n1 : 1 ≤ c.n
  n2 : c.n ≤ 4
  m : c.rows.length ≤ 9
  rows : OkRs (List.replicate c.n 1) c.rows
  o1 : 1 ≤ c.outs.length
  o2 : c.outs.length ≤ 3
  outs : ∀ o ∈ c.outs, o < c.n + c.rows.length
theorem facs_len : ∀ (rs : List Row) (fs : List Nat), (facs fs rs).length = fs.length + rs.length
  | [], fs => rfl
  | r :: rs, fs => by rw [facs, facs_len rs]; simp; omega
/-! ### numbers -/
theorem ii_nu (n : Nat) : ii n ≠ .und := by intro z; cases z
theorem inb_ii (k n : Nat) : PV.inb k (ii n) = true := inb_int _ _
theorem w_int (k : Nat) (s : Store) (i : Int) : callF lt.T (k + 1) "is_whole" [.int i] s = .ok (.bl true) s := s_whole k s (.int i) true false (by intro z; cases z) rfl rfl
theorem t_num : lt.T.fn "is_number" = some ⟨3, 3, b_f_is_number⟩ := by rfl
theorem s_num (k : Nat) (s : Store) (v lo hi : Int) : callF lt.T (k + 2) "is_number" [.int v, .int lo, .int hi] s = .ok (.bl (decide (lo ≤ v) && decide (v ≤ hi))) s :=
  call_pure t_num rfl (inb_bl _ _) (ret_V (and_T (call1_V (v_int rfl) (w_int k s v)) (chain_V (v_int rfl) (v_int rfl) rfl (v_int rfl) rfl)))
theorem t_cell : lt.T.fn "is_cell" = some ⟨2, 2, b_f_is_cell⟩ := by rfl
theorem s_cell (k : Nat) (s : Store) (c m : Nat) (h : c < m) : callF lt.T (k + 3) "is_cell" [ii c, ii m] s = .ok (.bl true) s := by
  have q := s_num k s (c : Int) 0 ((m : Int) - 1)
  rw [decide_eq_true (show (0 : Int) ≤ c by omega), decide_eq_true (show (c : Int) ≤ m - 1 by omega)] at q
  exact call_pure t_cell rfl (inb_bl _ _) (ret_V (call3_V (v_int rfl) int_V (sub_V (v_int rfl) int_V) q))
/-! ### is_sum_row, is_code_row -/
theorem small_ii {n : Nat} (h : n < 2 ^ 62) : ((n : Int)).natAbs.log2 < 1900 := log_lt (m := 62) (by rw [Int.natAbs_natCast]; exact h) (by decide) (by decide)
def sumB : ISs := .cons (.ife (.or (.nt (.blt false (.isT "tuple") (.cons (.var 2) .nil))) (.or (.cmp .ne (.blt false .len (.cons (.var 2) .nil)) (.int 2)) (.or (.nt (.call "is_whole" (.cons (.idx (.var 2) (.int 0)) .nil))) (.nt (.call "is_cell" (.cons (.idx (.var 2) (.int 1)) (.cons (.var 1) .nil))))))) (.cons (.ret (.bl false)) .nil) .nil) .nil
theorem t_sumrow : lt.T.fn "is_sum_row" = some ⟨2, 4, b_f_is_sum_row⟩ := by rfl
theorem cells_srt {l : List Nat} (h : l.Pairwise (· < ·)) : sortI (onceI (l.map fun (n : Nat) => (n : Int))) = l.map fun (n : Nat) => (n : Int) := by
  have h1 : (l.map fun (n : Nat) => (n : Int)).Pairwise (· < ·) := List.pairwise_map.mpr (h.imp fun {a b} q => by omega)
  rw [onceI_nd (lt_nodup h1), sortI_srt (lt_le h1)]
theorem s_sumrow (k : Nat) (s : Store) (ts : List (Int × Nat)) (b : Int) (f m : Nat) (hn : ts ≠ []) (hl : ts.length < 64) (hc : ∀ t ∈ ts, t.2 < m) (hm : m < 2 ^ 62) (hw : ∀ t ∈ ts, t.1.natAbs < 2 ^ 134) (hs : (ts.map (·.2)).Pairwise (· < ·)) (hf : 0 < f) : callF lt.T (k + 4) "is_sum_row" [rowV (.sum ts b f), ii m] s = .ok (.bl true) s := by
  have hb : ∀ x ∈ ts.map tV, ∀ y, bodyF (callsOf lt.T (k + 3)) (.one 2) sumB x ([rowV (.sum ts b f), ii m, .und, .und].set 2 y) s = .nx ([rowV (.sum ts b f), ii m, .und, .und].set 2 x) s := by
    intro x hx y
    obtain ⟨t, ht, rfl⟩ := List.mem_map.mp hx
    show exs (callsOf lt.T (k + 3)) sumB [rowV (.sum ts b f), ii m, tV t, .und] s = _
    exact ife_Fn (or_F (nt_F (isT_V (v_tup rfl) rfl)) (or_F (nei_F (len_T (v_tup rfl)) int_V rfl) (or_F (nt_F (call1_V (idx_V (v_tup rfl) int_V rfl) (w_int _ s t.1))) (nt_F (call2_V (idx_V (v_tup rfl) int_V rfl) (v_int rfl) (s_cell _ s t.2 m (hc t ht))))))) nil_N
  obtain ⟨y, hfor⟩ := for_last .und hb
  have hcomp : ev (callsOf lt.T (k + 3)) (.comp false (.idx (.var 2) (.int 1)) (.one 2) [2] (.val (.idx (.var 0) (.int 1))) .no) [rowV (.sum ts b f), ii m, y, .und] s = .ok (.lst (((ts.map (·.2)).map fun (n : Nat) => (n : Int)).map .int)) s := by
    rw [ev_comp (h := tV) (g := fun t => ii t.2) (live := []) ts (it_T (idx_V (v_tup rfl) int_V rfl)) rfl (by rw [line_eq]; omega) (fun t _ => ⟨_, rfl, idx_V (v_tup rfl) int_V rfl⟩), List.map_map, List.map_map]
    rfl
  have hsm : ∀ i ∈ (ts.map (·.2)).map fun (n : Nat) => (n : Int), i.natAbs.log2 < 1900 := fun i hi => by
    obtain ⟨n, hn, rfl⟩ := List.mem_map.mp hi
    obtain ⟨t, ht, rfl⟩ := List.mem_map.mp hn
    exact small_ii (Nat.lt_trans (hc t ht) hm)
  have heq := eq_ints (s := s) hsm hsm
  rw [decide_eq_true rfl] at heq
  have hss := ssort_ints (sub := (callsOf lt.T (k + 3)).sub) (s := s) (x := .lst (((ts.map (·.2)).map fun (n : Nat) => (n : Int)).map .int)) rfl (by simpa using hl)
  rw [cells_srt hs] at hss
  have hne : cmpSem .eq s (.tup (ts.map tV)) (.tup []) = some false := by
    cases ts with
    | nil => exact absurd rfl hn
    | cons t ts =>
      refine eq_nilT (n := 1) (fun y hy => ?_) (by decide)
      obtain ⟨u, hu, rfl⟩ := List.mem_map.mp (show y ∈ (t :: ts).map tV from hy)
      refine pl_tup fun z hz => ?_
      rcases List.mem_cons.mp hz with rfl | hz
      · exact pl_int (log_lt (hw u hu) (by decide) (by decide))
      · rw [List.mem_singleton.mp hz]
        exact pl_int (small_ii (Nat.lt_trans (hc u hu) hm))
  refine call_pure t_sumrow rfl (inb_bl _ _) ?_
  show exs (callsOf lt.T (k + 3)) b_f_is_sum_row [rowV (.sum ts b f), ii m, .und, .und] s = _
  refine ife_Fn (or_F (nei_F (len_T (v_tup rfl)) int_V rfl) (or_F (nt_F (isT_V (idx_V (v_tup rfl) int_V rfl) rfl)) (cmp_V (idx_V (v_tup rfl) int_V rfl) (tup_V es0 (Nat.zero_le _)) hne))) ?_
  refine for_N (it_T (idx_V (v_tup rfl) int_V rfl)) hfor ?_
  refine asg_N hcomp ?_
  refine ret_V (and_T (cmp_V (v_lst rfl) (blt1_V (v_lst rfl) hss) heq) (and_T (call1_V (idx_V (v_tup rfl) int_V rfl) (w_int _ s b)) (and_T (call1_V (idx_V (v_tup rfl) int_V rfl) (w_int _ s f)) (gt_T (idx_V (v_tup rfl) int_V rfl) int_V (by omega)))))
end K55

/-! k55: is_code. -/
namespace K55
open PySem L2 TL SX MP
theorem OkR.sm {fs : List Nat} {r : Row} (h : OkR fs r) (hz : fs.length < 2 ^ 62) : ∀ c ∈ readR r, c < 2 ^ 62 := fun c hc => Nat.lt_trans (h.lt c hc) hz
theorem pl_ii {n m : Nat} (h : m < 2 ^ 62) : plN n (ii m) = true := pl_int (small_ii h)
theorem t_coderow : lt.T.fn "is_code_row" = some ⟨2, 4, b_f_is_code_row⟩ := by rfl
theorem hal {α : Type} {l : List α} : ∀ x ∈ (l.map fun _ => PV.bl true), x = .bl true := fun x hx => (List.mem_map.mp hx).elim fun _ q => q.2.symm
theorem all_ok {sub : Str → Str → Option Bool} {s : Store} {l : List PV} (h : ∀ x ∈ l, x = .bl true) : bltSem sub .all1 s [.lst l] = some (.bl true) := by
  have : bools? l = some (l.map fun _ => true) := by
    induction l with
    | nil => rfl
    | cons x l ih =>
      rw [h x List.mem_cons_self]
      show (bools? l).map (true :: ·) = _
      rw [ih fun y hy => h y (List.mem_cons_of_mem _ hy)]
      rfl
  show (bools? l).map (fun l => PV.bl (l.all id)) = _
  rw [this]
  simp
theorem s_coderow (k : Nat) (s : Store) (fs : List Nat) (r : Row) (h : OkR fs r) (hz : fs.length < 2 ^ 62) : callF lt.T (k + 5) "is_code_row" [rowV r, ii fs.length] s = .ok (.bl true) s := by
  refine call_pure t_coderow rfl (inb_bl _ _) ?_
  show exs (callsOf lt.T (k + 4)) b_f_is_code_row [rowV r, ii fs.length, .und, .und] s = _
  cases r with
  | sum ts b f =>
    have hne : ts ≠ [] := fun e => h.ne (by rw [e]; rfl)
    have hp : ∀ y ∈ [PV.str "sum", .tup (ts.map tV), .int b, ii f], plN 2 y = true := fun y hy => by
      simp only [List.mem_cons, List.not_mem_nil, or_false] at hy
      rcases hy with rfl | rfl | rfl | rfl
      · exact pl_str (by decide)
      · refine pl_tup fun z hz' => ?_
        obtain ⟨t, ht, rfl⟩ := List.mem_map.mp hz'
        refine pl_tup fun w hw => ?_
        rcases List.mem_cons.mp hw with rfl | hw
        · exact pl_int (log_lt (h.up.2.1 t ht) (by decide) (by decide))
        · rw [List.mem_singleton.mp hw]
          exact pl_ii (h.sm hz _ (List.mem_map_of_mem ht))
      · exact pl_int (log_lt h.up.2.2.1 (by decide) (by decide))
      · exact pl_ii (Nat.lt_trans h.up.2.2.2.2 (by decide))
    refine ife_Fn (or_F (nt_F (isT_V (v_tup rfl) rfl)) (or_F (cmp_V (v_tup rfl) (tup_V es0 (Nat.zero_le _)) (eq_nilT hp (by decide))) (nt_F (isT_V (idx_V (v_tup rfl) int_V rfl) rfl)))) ?_
    refine ife_Tr (eqs_T (idx_V (v_tup rfl) int_V rfl) str_V rfl) (call2_V (v_tup rfl) (v_int rfl) ?_)
    exact s_sumrow k s ts b f fs.length hne (by simpa [readR] using h.len) (fun t ht => h.lt _ (List.mem_map_of_mem ht)) hz h.up.2.1 h.up.1 h.up.2.2.2.1
  | rest c =>
    have hc : c < fs.length := h.lt c (List.mem_singleton.mpr rfl)
    have hp : ∀ y ∈ [PV.str "rest", ii c], plN 2 y = true := fun y hy => by
      simp only [List.mem_cons, List.not_mem_nil, or_false] at hy
      rcases hy with rfl | rfl
      · exact pl_str (by decide)
      · exact pl_ii (Nat.lt_trans hc hz)
    refine ife_Fn (or_F (nt_F (isT_V (v_tup rfl) rfl)) (or_F (cmp_V (v_tup rfl) (tup_V es0 (Nat.zero_le _)) (eq_nilT hp (by decide))) (nt_F (isT_V (idx_V (v_tup rfl) int_V rfl) rfl)))) ?_
    refine ife_Fn (eqs_F (idx_V (v_tup rfl) int_V rfl) str_V (by decide)) ?_
    refine ife_Tr (eqs_T (idx_V (v_tup rfl) int_V rfl) str_V rfl) (and_T (eqi_T (len_T (v_tup rfl)) int_V rfl) (call2_V (idx_V (v_tup rfl) int_V rfl) (v_int rfl) ?_))
    exact s_cell (k + 1) s c fs.length hc
  | gr cs =>
    have hp0 : ∀ y ∈ cs.map ii, plN 1 y = true := fun y hy => by
      obtain ⟨c, hc, rfl⟩ := List.mem_map.mp hy
      exact pl_ii (h.sm hz c hc)
    have hp : ∀ y ∈ [PV.str "greatest", .tup (cs.map ii)], plN 2 y = true := fun y hy => by
      simp only [List.mem_cons, List.not_mem_nil, or_false] at hy
      rcases hy with rfl | rfl
      · exact pl_str (by decide)
      · exact pl_tup hp0
    have hne : cmpSem .eq s (.tup (cs.map ii)) (.tup []) = some false := by
      cases cs with
      | nil => exact absurd rfl h.ne
      | cons c cs => exact eq_nilT hp0 (by decide)
    refine ife_Fn (or_F (nt_F (isT_V (v_tup rfl) rfl)) (or_F (cmp_V (v_tup rfl) (tup_V es0 (Nat.zero_le _)) (eq_nilT hp (by decide))) (nt_F (isT_V (idx_V (v_tup rfl) int_V rfl) rfl)))) ?_
    refine ife_Fn (eqs_F (idx_V (v_tup rfl) int_V rfl) str_V (by decide)) ?_
    refine ife_Fn (eqs_F (idx_V (v_tup rfl) int_V rfl) str_V (by decide)) ?_
    refine ife_Fn (or_F (nes_F (idx_V (v_tup rfl) int_V rfl) str_V rfl) (or_F (nei_F (len_T (v_tup rfl)) int_V rfl) (or_F (nt_F (isT_V (idx_V (v_tup rfl) int_V rfl) rfl)) (cmp_V (idx_V (v_tup rfl) int_V rfl) (tup_V es0 (Nat.zero_le _)) hne)))) ?_
    refine asg_N (idx_V (v_tup rfl) int_V rfl) ?_
    have hlen : cs.length < 64 := h.len
    have hcomp : ev (callsOf lt.T (k + 4)) (.comp false (.call "is_cell" (.cons (.var 3) (.cons (.var 1) .nil))) (.one 3) [3] (.val (.var 2)) .no) [rowV (.gr cs), ii fs.length, .tup (cs.map ii), .und] s = .ok (.lst (cs.map fun _ => .bl true)) s :=
      ev_comp (h := ii) (g := fun _ => .bl true) (live := []) cs (it_T (v_tup rfl)) rfl (by rw [line_eq]; omega) (fun c hc => ⟨_, rfl, call2_V (v_int rfl) (v_int rfl) (s_cell (k + 1) s c fs.length (h.lt c hc))⟩)
    have hns := nset_ints (sub := (callsOf lt.T (k + 4)).sub) (s := s) (x := .tup (cs.map ii)) (l := cs.map fun (n : Nat) => (n : Int)) (by
      show some (cs.map ii) = _
      rw [List.map_map]
      rfl) (by rw [List.length_map]; omega)
    have hnd : (cs.map fun (n : Nat) => (n : Int)).Nodup := List.pairwise_map.mpr (List.Pairwise.imp (R := (· ≠ ·)) (fun {a b} q => by omega) h.nd)
    rw [onceI_nd hnd] at hns
    exact ret_V (and_T (blt1_V hcomp (all_ok fun x hx => (List.mem_map.mp hx).elim fun _ q => q.2.symm)) (eqi_T (blt1_V (v_tup rfl) hns) (len_T (v_tup rfl)) (by rw [List.length_map, List.length_map])))
/-! ### is_code_form -/
theorem t_codeform : lt.T.fn "is_code_form" = some ⟨1, 4, b_f_is_code_form⟩ := by rfl
theorem okrs_at : ∀ {rs : List Row} {fs : List Nat} {i : Nat} {r : Row}, OkRs fs rs → rs[i]? = some r → ∃ gs : List Nat, gs.length = fs.length + i ∧ OkR gs r
  | [], fs, i, r, _, e => by simp at e
  | x :: rs, fs, 0, r, h, e => by
    simp at e
    subst e
    exact ⟨fs, rfl, h.1⟩
  | x :: rs, fs, i + 1, r, h, e => by
    obtain ⟨gs, h1, h2⟩ := okrs_at h.2 (by simpa using e)
    exact ⟨gs, by rw [h1, List.length_append]; simp; omega, h2⟩
theorem s_codeform (k : Nat) (s : Store) (c : Code) (h : OkC c) : callF lt.T (k + 6) "is_code_form" [codeV c] s = .ok (.bl true) s := by
  obtain ⟨n1, n2, m9, hr, o1, o2, ho⟩ := h
  have q := s_num (k + 3) s (c.n : Int) 1 36
  rw [decide_eq_true (show (1 : Int) ≤ c.n by omega), decide_eq_true (show (c.n : Int) ≤ 36 by omega)] at q
  have hrow : ∀ p ∈ (c.rows.map rowV).zipIdx, ∃ r gs, p = (rowV r, p.2) ∧ gs.length = c.n + p.2 ∧ OkR gs r := fun p hp => by
    have hp' := List.mem_zipIdx_iff_getElem?.mp hp
    rw [List.getElem?_map] at hp'
    obtain ⟨r, e, e2⟩ := Option.map_eq_some_iff.mp hp'
    obtain ⟨gs, h1, h2⟩ := okrs_at hr e
    exact ⟨r, gs, by rw [e2], by rw [h1, List.length_replicate], h2⟩
  have hcomp : ev (callsOf lt.T (k + 5)) (.comp false (.call "is_code_row" (.cons (.var 3) (.cons (.bin false .add (.idx (.var 0) (.int 0)) (.var 2)) .nil))) (.many [2, 3]) [2, 3] (.enum (.idx (.var 0) (.int 1))) .no) [codeV c, .und, .und, .und] s = .ok (.lst ((c.rows.map rowV).zipIdx.map fun _ => .bl true)) s := by
    refine ev_comp (h := fun p : PV × Nat => .tup [.int (p.2 : Nat), p.1]) (g := fun _ => .bl true) (live := []) _ (it_E (idx_V (v_tup rfl) int_V rfl)) rfl (by rw [line_eq, List.length_zipIdx, List.length_map]; omega) (fun p hp => ?_)
    obtain ⟨r, gs, e, h1, h2⟩ := hrow p hp
    have hp2 : p.2 < 9 := by
      have := (List.mem_zipIdx hp).2.1
      rw [List.length_map] at this
      omega
    have ec := s_coderow k s gs r h2 (by omega)
    have ea : ev (callsOf lt.T (k + 5)) (.bin false .add (.idx (.var 0) (.int 0)) (.var 2)) [codeV c, .und, .int (p.2 : Nat), rowV r] s = .ok (ii gs.length) s := by
      rw [h1]
      show _ = Res.ok (PV.int ((c.n + p.2 : Nat) : Int)) s
      rw [Int.natCast_add]
      exact add_V (idx_V (v_tup rfl) int_V rfl) (v_int rfl)
    refine ⟨[codeV c, .und, .int (p.2 : Nat), rowV r], ?_, ?_⟩
    · rw [e]
      rfl
    · have nu : rowV r ≠ .und := by cases r <;> (intro z; cases z)
      exact call2_V (ev_v rfl nu) ea ec
  have hout : ev (callsOf lt.T (k + 5)) (.comp false (.call "is_cell" (.cons (.var 1) (.cons (.bin false .add (.idx (.var 0) (.int 0)) (.blt false .len (.cons (.idx (.var 0) (.int 1)) .nil))) .nil))) (.one 1) [1] (.val (.idx (.var 0) (.int 2))) .no) [codeV c, .und, .und, .und] s = .ok (.lst (c.outs.map fun _ => .bl true)) s := by
    refine ev_comp (h := ii) (g := fun _ => .bl true) (live := []) c.outs (it_T (idx_V (v_tup rfl) int_V rfl)) rfl (by rw [line_eq]; omega) (fun o hoo => ⟨_, rfl, ?_⟩)
    have ec := s_cell (k + 2) s o (c.n + c.rows.length) (ho o hoo)
    have ea : ev (callsOf lt.T (k + 5)) (.bin false .add (.idx (.var 0) (.int 0)) (.blt false .len (.cons (.idx (.var 0) (.int 1)) .nil))) [codeV c, ii o, .und, .und] s = .ok (ii (c.n + c.rows.length)) s := by
      show _ = Res.ok (PV.int ((c.n + c.rows.length : Nat) : Int)) s
      rw [Int.natCast_add]
      have e2 : ev (callsOf lt.T (k + 5)) (.blt false .len (.cons (.idx (.var 0) (.int 1)) .nil)) [codeV c, ii o, .und, .und] s = .ok (.int ((c.rows.map rowV).length : Nat)) s := len_T (idx_V (v_tup rfl) int_V rfl)
      rw [List.length_map] at e2
      exact add_V (idx_V (v_tup rfl) int_V rfl) e2
    exact call2_V (v_int rfl) ea ec
  refine call_pure t_codeform rfl (inb_bl _ _) ?_
  show exs (callsOf lt.T (k + 5)) b_f_is_code_form [codeV c, .und, .und, .und] s = _
  refine ife_Fn (or_F (nt_F (isT_V (v_tup rfl) rfl)) (or_F (nei_F (len_T (v_tup rfl)) int_V rfl) (nt_F (call3_V (idx_V (v_tup rfl) int_V rfl) int_V (glob_V (gMI _)) q)))) ?_
  refine ife_Fn (or_F (nt_F (isT_V (idx_V (v_tup rfl) int_V rfl) rfl)) (or_F (gt_F (len_T (idx_V (v_tup rfl) int_V rfl)) (glob_V (gMC _)) (by rw [List.length_map]; omega)) (nt_F (isT_V (idx_V (v_tup rfl) int_V rfl) rfl)))) ?_
  refine ife_Fn (nt_F (blt1_V hcomp (all_ok hal))) ?_
  exact ret_V (and_T (chle_T int_V (len_T (idx_V (v_tup rfl) int_V rfl)) (glob_V (gMI _)) (by rw [List.length_map]; omega) (by rw [List.length_map]; omega)) (blt1_V hout (all_ok hal)))
end K55

/-! k55: factors. -/
namespace K55
open PySem L2 TL SX MP
theorem row_nu (r : Row) : rowV r ≠ .und := by cases r <;> (intro z; cases z)
theorem t_read : lt.T.fn "cells_read" = some ⟨1, 3, b_f_cells_read⟩ := by rfl
theorem inbs_ii (k : Nat) (l : List Nat) : PV.inbs k (l.map ii) = true := by
  rw [inbs_all]
  exact List.all_eq_true.mpr fun x hx => by
    obtain ⟨n, _, rfl⟩ := List.mem_map.mp hx
    exact inb_ii _ _
theorem inb_lii (k : Nat) (l : List Nat) : PV.inb k (.lst (l.map ii)) = true := by
  rw [PV.inb]
  exact inbs_ii k l
theorem s_read (k : Nat) (s : Store) (r : Row) (h : (readR r).length < 64) : callF lt.T (k + 1) "cells_read" [rowV r] s = .ok (.lst ((readR r).map ii)) s := by
  refine call_pure t_read rfl (inb_lii _ _) ?_
  show exs (callsOf lt.T k) b_f_cells_read [rowV r, .und, .und] s = _
  cases r with
  | sum ts b f =>
    refine ife_Tr (eqs_T (idx_V (v_tup rfl) int_V rfl) str_V rfl) ?_
    have hl : ts.length < 64 := by simpa [readR] using h
    have e := ev_compX (C := callsOf lt.T k) (elt := .var 2) (tg := .many [1, 2]) (own := [1, 2]) (it := .val (.idx (.var 0) (.int 1))) (env := [rowV (.sum ts b f), .und, .und]) (s := s) (h := tV) (g := fun t => ii t.2) (live := []) (bx := false) ts (it_T (idx_V (v_tup rfl) int_V rfl)) rfl (by omega) (fun t _ => ⟨[rowV (.sum ts b f), .int t.1, ii t.2], rfl, v_int rfl⟩)
    refine e.trans ?_
    show Res.ok (PV.lst (ts.map fun t => ii t.2)) s = _
    show _ = Res.ok (PV.lst ((ts.map (·.2)).map ii)) s
    rw [List.map_map]
    rfl
  | rest c =>
    refine ife_Fn (eqs_F (idx_V (v_tup rfl) int_V rfl) str_V (by decide)) (ret_V ?_)
    exact MP.ife_T (eqs_T (idx_V (v_tup rfl) int_V rfl) str_V rfl) (lst_V (es1 (idx_V (v_tup rfl) int_V rfl)) (show 1 ≤ 16777216 by decide))
  | gr cs =>
    refine ife_Fn (eqs_F (idx_V (v_tup rfl) int_V rfl) str_V (by decide)) (ret_V ?_)
    exact MP.ife_F (eqs_F (idx_V (v_tup rfl) int_V rfl) str_V (by decide)) (blt1_V (idx_V (v_tup rfl) int_V rfl) rfl)
def fmC : IE := .comp false (.idx (.var 1) (.var 5)) (.one 5) [5] (.val (.call "cells_read" (.cons (.var 2) .nil))) .no
def fmB : ISs := .cons (.asg 3 fmC)
    (.cons (.ife (.cmp .ne (.var 3) (.bin false .mul (.lst false (.cons (.idx (.var 3) (.int 0)) .nil)) (.blt false .len (.cons (.var 3) .nil)))) (.cons (.ret (.var 1)) .nil) .nil)
    (.cons (.expr (.meth .append (.var 1) (.cons (.ife (.cmp .eq (.idx (.var 2) (.int 0)) (.str "sum")) (.bin false .mul (.idx (.var 3) (.int 0)) (.idx (.var 2) (.int 3))) (.idx (.var 3) (.int 0))) .nil)))
    .nil))
theorem map_ii (l : List Nat) : l.map ii = (l.map fun (n : Nat) => (n : Int)).map PV.int := by
  rw [List.map_map]
  rfl
theorem head_at {r : Row} (h : readR r ≠ []) : (readR r)[0]? = some (headR r) := by
  unfold headR
  cases e : readR r with
  | nil => exact absurd e h
  | cons x l => rfl
theorem bits_nat {n m : Nat} (h : n < 2 ^ m) : bits (n : Int) ≤ m := by
  unfold bits
  rw [Int.natAbs_natCast]
  by_cases q : n = 0
  · rw [q]; simp
  · exact Nat.le_of_lt ((Nat.log2_lt q).mpr h)
theorem log_nat {n m : Nat} (h : n < 2 ^ m) (hm : m ≤ 1800) : ((n : Int)).natAbs.log2 < 1900 := by
  have := bits_nat h
  unfold bits at this
  omega
theorem fm_turn (k : Nat) (s : Store) (fs : List Nat) (r : Row) (cv x2 x3 : PV) (h : OkR fs r) (hz : fs.length < 1000) (hb : ∀ x ∈ fs, x < 2 ^ 1000) :
    bodyF (callsOf lt.T (k + 1)) (.one 2) fmB (rowV r) [cv, .obj s.length, x2, x3, .und, .und] (s ++ [.lst (fs.map ii)]) = .nx [cv, .obj s.length, rowV r, .lst ((readR r).map fun c => ii (fs.getD c 0)), .und, .und] (s ++ [.lst ((fs ++ [nextF fs r]).map ii)]) := by
  have hs : (s ++ [SO.lst (fs.map ii)])[s.length]? = some (.lst (fs.map ii)) := at_new
  have gm : ∀ c, c < fs.length → (fs.map ii)[c]? = some (ii (fs.getD c 0)) := fun c hc => by rw [List.getElem?_map, getD_at hc]; rfl
  have gb : ∀ c, c < fs.length → fs.getD c 0 < 2 ^ 1000 := fun c hc => hb _ (by
    have := getD_at hc
    exact List.mem_of_getElem? this)
  have hh : headR r < fs.length := h.lt _ (List.mem_of_getElem? (head_at h.ne))
  show exs (callsOf lt.T (k + 1)) fmB [cv, .obj s.length, rowV r, x3, .und, .und] (s ++ [.lst (fs.map ii)]) = _
  have c1 : ev (callsOf lt.T (k + 1)) fmC [cv, .obj s.length, rowV r, x3, .und, .und] (s ++ [.lst (fs.map ii)]) = .ok (.lst ((readR r).map fun c => ii (fs.getD c 0))) (s ++ [.lst (fs.map ii)]) := by
    refine (ev_compX (h := ii) (g := fun c => ii (fs.getD c 0)) (live := []) (bx := false) (readR r) (it_L (call1_V (ev_v rfl (row_nu r)) (s_read k _ r h.len))) rfl (by have := h.len; omega) (fun c hc => ⟨[cv, .obj s.length, rowV r, x3, .und, ii c], rfl, idx_V (v_obj rfl) (v_int rfl) (idx_O hs (gm c (h.lt c hc)))⟩)).trans rfl
  refine asg_N c1 ?_
  have c2 : ((readR r).map fun c => ii (fs.getD c 0)) = ((readR r).map fun c => ((fs.getD c 0 : Nat) : Int)).map PV.int := by
    rw [List.map_map]
    rfl
  have c3 : ((readR r).map fun c => ii (fs.getD c 0)) = List.replicate (readR r).length (ii (fs.getD (headR r) 0)) := by
    refine List.eq_replicate_iff.mpr ⟨by rw [List.length_map], fun b hb => ?_⟩
    obtain ⟨c, hc, rfl⟩ := List.mem_map.mp hb
    rw [h.eq c hc]
  have c4 : ∀ i ∈ (readR r).map fun c => ((fs.getD c 0 : Nat) : Int), i.natAbs.log2 < 1900 := fun i hi => by
    obtain ⟨c, hc, rfl⟩ := List.mem_map.mp hi
    exact log_nat (gb c (h.lt c hc)) (by decide)
  have c5 : ((readR r).map fun c => ii (fs.getD c 0))[0]? = some (ii (fs.getD (headR r) 0)) := by
    rw [List.getElem?_map, head_at h.ne]
    rfl
  have c6 : ∀ env : MP.Env, env[3]? = some (.lst ((readR r).map fun c => ii (fs.getD c 0))) → ev (callsOf lt.T (k + 1)) (.idx (.var 3) (.int 0)) env (s ++ [.lst (fs.map ii)]) = .ok (ii (fs.getD (headR r) 0)) (s ++ [.lst (fs.map ii)]) := fun env he => idx_V (v_lst he) (int_V (k := ((0 : Nat) : Int))) (idx_Ln c5)
  have c7 : ev (callsOf lt.T (k + 1)) (.bin false .mul (.lst false (.cons (.idx (.var 3) (.int 0)) .nil)) (.blt false .len (.cons (.var 3) .nil))) [cv, .obj s.length, rowV r, .lst ((readR r).map fun c => ii (fs.getD c 0)), .und, .und] (s ++ [.lst (fs.map ii)]) = .ok (.lst ((readR r).map fun c => ii (fs.getD c 0))) (s ++ [.lst (fs.map ii)]) := by
    have e1 : ev (callsOf lt.T (k + 1)) (.blt false .len (.cons (.var 3) .nil)) [cv, .obj s.length, rowV r, .lst ((readR r).map fun c => ii (fs.getD c 0)), .und, .und] (s ++ [.lst (fs.map ii)]) = .ok (.int (((readR r).map fun c => ii (fs.getD c 0)).length : Nat)) (s ++ [.lst (fs.map ii)]) := len_L (v_lst rfl)
    rw [List.length_map] at e1
    have e2 := mulL_V (lst_V (es1 (c6 _ rfl)) (show 1 ≤ 16777216 by decide)) e1 (by have := h.len; show 1 * _ ≤ _; omega) (by have := h.len; omega)
    rw [rep_one, ← c3] at e2
    exact e2
  have c8 : cmpSem .ne (s ++ [SO.lst (fs.map ii)]) (.lst ((readR r).map fun c => ii (fs.getD c 0))) (.lst ((readR r).map fun c => ii (fs.getD c 0))) = some false := by
    rw [c2]
    exact ne_same (n := 1) (pl_lst (pl_ints c4)) (by decide)
  refine ife_Fn (cmp_V (v_lst rfl) c7 c8) ?_
  have c9 : ev (callsOf lt.T (k + 1)) (.ife (.cmp .eq (.idx (.var 2) (.int 0)) (.str "sum")) (.bin false .mul (.idx (.var 3) (.int 0)) (.idx (.var 2) (.int 3))) (.idx (.var 3) (.int 0))) [cv, .obj s.length, rowV r, .lst ((readR r).map fun c => ii (fs.getD c 0)), .und, .und] (s ++ [.lst (fs.map ii)]) = .ok (ii (nextF fs r)) (s ++ [.lst (fs.map ii)]) := by
    cases r with
    | sum ts b f =>
      refine MP.ife_T (eqs_T (idx_V (v_tup rfl) int_V rfl) str_V rfl) ?_
      show _ = Res.ok (PV.int ((fs.getD (headR (.sum ts b f)) 0 * f : Nat) : Int)) _
      rw [Int.natCast_mul]
      refine mul_V (c6 _ rfl) (idx_V (v_tup rfl) int_V rfl) ?_
      have b1 := bits_nat (gb _ hh)
      have b2 := bits_nat h.up.2.2.2.2
      omega
    | rest c =>
      refine MP.ife_F (eqs_F (idx_V (v_tup rfl) int_V rfl) str_V (by decide)) ?_
      have e : nextF fs (.rest c) = fs.getD (headR (.rest c)) 0 := Nat.mul_one _
      rw [e]
      exact c6 _ rfl
    | gr cs =>
      refine MP.ife_F (eqs_F (idx_V (v_tup rfl) int_V rfl) str_V (by decide)) ?_
      have e : nextF fs (.gr cs) = fs.getD (headR (.gr cs)) 0 := Nat.mul_one _
      rw [e]
      exact c6 _ rfl
  refine expr_N (append_V (v_obj rfl) hs c9 hs (by rw [List.length_map]; omega)) ?_
  rw [nil_N, set_new, List.map_append]
  rfl
end K55

/-! k55: need_code; vectors; divisors. -/
namespace K55
open PySem L2 TL SX MP
def Up (m : Nat) (fs : List Nat) : Prop := ∀ x ∈ fs, 0 < x ∧ x < 2 ^ m
theorem pow_mono {m n : Nat} (h : m ≤ n) : (2 : Nat) ^ m ≤ 2 ^ n := Nat.pow_le_pow_right (by decide) h
theorem nextF_up {m : Nat} {fs : List Nat} {r : Row} (h : OkR fs r) (hu : Up m fs) : 0 < nextF fs r ∧ nextF fs r < 2 ^ (m + 5) := by
  have hh : headR r < fs.length := h.lt _ (List.mem_of_getElem? (head_at h.ne))
  have hm : fs.getD (headR r) 0 ∈ fs := List.mem_of_getElem? (getD_at hh)
  obtain ⟨h1, h2⟩ := hu _ hm
  have hf : 0 < fR r ∧ fR r < 2 ^ 5 := by
    cases r with
    | sum ts b f => exact h.up.2.2.2
    | rest c => exact ⟨show 0 < 1 by decide, show 1 < 2 ^ 5 by decide⟩
    | gr cs => exact ⟨show 0 < 1 by decide, show 1 < 2 ^ 5 by decide⟩
  unfold nextF
  refine ⟨Nat.mul_pos h1 hf.1, ?_⟩
  rw [Nat.pow_add]
  exact Nat.mul_lt_mul_of_lt_of_lt h2 hf.2
theorem Up.next {m : Nat} {fs : List Nat} {r : Row} (h : OkR fs r) (hu : Up m fs) : Up (m + 5) (fs ++ [nextF fs r]) := fun x hx => by
  rcases List.mem_append.mp hx with hx | hx
  · exact ⟨(hu x hx).1, Nat.lt_of_lt_of_le (hu x hx).2 (pow_mono (by omega))⟩
  · rw [List.mem_singleton.mp hx]
    exact nextF_up h hu
theorem facs_up : ∀ {rs : List Row} {fs : List Nat} {m : Nat}, OkRs fs rs → Up m fs → Up (m + 5 * rs.length) (facs fs rs)
  | [], fs, m, _, h => h
  | r :: rs, fs, m, ho, h => by
    have := facs_up ho.2 (h.next ho.1)
    rw [facs, List.length_cons, show m + 5 * (rs.length + 1) = m + 5 + 5 * rs.length by omega]
    exact this
theorem fm_loop (k : Nat) (s : Store) (cv : PV) : ∀ (rs : List Row) (fs : List Nat) (m : Nat) (x2 x3 : PV), OkRs fs rs → Up m fs → fs.length + rs.length < 1000 → m + 5 * rs.length ≤ 1000 →
    ∃ y2 y3, forLoop (bodyF (callsOf lt.T (k + 1)) (.one 2) fmB) [] (rs.map rowV) [cv, .obj s.length, x2, x3, .und, .und] (s ++ [.lst (fs.map ii)]) = .nx [cv, .obj s.length, y2, y3, .und, .und] (s ++ [.lst ((facs fs rs).map ii)])
  | [], fs, m, x2, x3, _, _, _, _ => ⟨x2, x3, for_nil rfl⟩
  | r :: rs, fs, m, x2, x3, ho, hu, hz, hm => by
    rw [List.length_cons] at hz hm
    have t := fm_turn k s fs r cv x2 x3 ho.1 (by omega) (fun x hx => Nat.lt_of_lt_of_le (hu x hx).2 (pow_mono (by omega)))
    obtain ⟨y2, y3, e⟩ := fm_loop k s cv rs (fs ++ [nextF fs r]) (m + 5) (rowV r) (.lst ((readR r).map fun c => ii (fs.getD c 0))) ho.2 (hu.next ho.1) (by rw [List.length_append, List.length_singleton]; omega) (by omega)
    exact ⟨y2, y3, (for_nx rfl t).trans e⟩
def facC (c : Code) : List Nat := facs (List.replicate c.n 1) c.rows
theorem up_one (n : Nat) : Up 1 (List.replicate n 1) := fun x hx => by
  rw [(List.mem_replicate.mp hx).2]
  exact ⟨by decide, by decide⟩
theorem facC_len (c : Code) : (facC c).length = c.n + c.rows.length := by
  unfold facC
  rw [facs_len, List.length_replicate]
theorem t_fm : lt.T.fn "factors_met" = some ⟨1, 6, b_f_factors_met⟩ := by rfl
theorem fm_eq : b_f_factors_met = .cons (.asg 1 (.comp true (.int 1) (.one 4) [4] (.rng1 (.idx (.var 0) (.int 0))) .no)) (.cons (.for (.one 2) (.val (.idx (.var 0) (.int 1))) fmB) (.cons (.ret (.var 1)) .nil)) := by rfl
theorem s_fm (k : Nat) (s : Store) (c : Code) (h : OkC c) : callF lt.T (k + 2) "factors_met" [codeV c] s = .ok (.lst ((facC c).map ii)) s := by
  obtain ⟨n1, n2, m9, hr, o1, o2, ho⟩ := h
  have e1 : ev (callsOf lt.T (k + 1)) (.comp true (.int 1) (.one 4) [4] (.rng1 (.idx (.var 0) (.int 0))) .no) [codeV c, .und, .und, .und, .und, .und] s = .ok (.obj s.length) (s ++ [.lst ((List.replicate c.n 1).map ii)]) := by
    refine (ev_compX (h := fun (j : Nat) => .int (j : Int)) (g := fun _ => ii 1) (live := []) (bx := true) (List.range c.n) (it_R (idx_V (v_tup rfl) int_V rfl) (by omega)) rfl (by rw [List.length_range]; omega) (fun j _ => ⟨[codeV c, .und, .und, .und, .int (j : Int), .und], rfl, int_V⟩)).trans ?_
    have : (List.range c.n).map (fun _ => ii 1) = (List.replicate c.n 1).map ii := by
      rw [List.map_const', List.map_replicate, List.length_range]
    rw [this]
    rfl
  obtain ⟨y2, y3, e2⟩ := fm_loop k s (codeV c) c.rows (List.replicate c.n 1) 1 .und .und hr (up_one _) (by rw [List.length_replicate]; omega) (by omega)
  refine call_lst (B := [.lst ((facC c).map ii)]) t_fm rfl (Nat.le_refl _) at_new (inbs_ii _ _) ?_
  show exs (callsOf lt.T (k + 1)) b_f_factors_met [codeV c, .und, .und, .und, .und, .und] s = _
  rw [fm_eq]
  exact asg_N e1 (for_N (it_T (idx_V (v_tup rfl) int_V rfl)) e2 (ret_V (v_obj rfl)))
theorem t_iscode : lt.T.fn "is_code" = some ⟨1, 1, b_f_is_code⟩ := by rfl
theorem s_iscode (k : Nat) (s : Store) (c : Code) (h : OkC c) : callF lt.T (k + 7) "is_code" [codeV c] s = .ok (.bl true) s := by
  have e1 := s_fm (k + 4) s c h
  have e2 := len_L (C := callsOf lt.T (k + 6)) (env := [codeV c]) (call1_V (f := "factors_met") (v_tup (i := 0) rfl) e1)
  rw [List.length_map, facC_len] at e2
  have e3 : ev (callsOf lt.T (k + 6)) (.bin false .add (.idx (.var 0) (.int 0)) (.blt false .len (.cons (.idx (.var 0) (.int 1)) .nil))) [codeV c] s = .ok (.int ((c.n + c.rows.length : Nat) : Int)) s := by
    rw [Int.natCast_add]
    have q : ev (callsOf lt.T (k + 6)) (.blt false .len (.cons (.idx (.var 0) (.int 1)) .nil)) [codeV c] s = .ok (.int ((c.rows.map rowV).length : Nat)) s := len_T (idx_V (v_tup rfl) int_V rfl)
    rw [List.length_map] at q
    exact add_V (idx_V (v_tup rfl) int_V rfl) q
  exact call_pure t_iscode rfl (inb_bl _ _) (ret_V (and_T (call1_V (v_tup rfl) (s_codeform k s c h)) (eqi_T e2 e3 rfl)))
theorem t_needcode : lt.T.fn "need_code" = some ⟨1, 1, b_f_need_code⟩ := by rfl
theorem s_needcode (k : Nat) (s : Store) (c : Code) (h : OkC c) : callF lt.T (k + 8) "need_code" [codeV c] s = .ok .non s :=
  call_nx (env := [codeV c]) t_needcode rfl (ife_Fn (nt_F (call1_V (v_tup rfl) (s_iscode k s c h))) nil_N)
/-! ### vectors -/
theorem t_vec : lt.T.fn "is_vector" = some ⟨2, 3, b_f_is_vector⟩ := by rfl
theorem s_tupof_n (k : Nat) (s : Store) (xs : List PV) (n : Nat) : callF lt.T (k + 1) "is_tuple_of" [.tup xs, ii n] s = .ok (.bl (decide (xs.length = n))) s := by
  have e : decide (((xs.length : Nat) : Int) = (n : Int)) = decide (xs.length = n) := decide_eq_decide.mpr (by omega)
  have := eqi_V (C := callsOf lt.T k) (env := [.tup xs, ii n]) (s := s) (len_T (v_tup (i := 0) rfl)) (v_int (i := 1) rfl)
  rw [e] at this
  exact call_pure t_tupof rfl (inb_bl _ _) (ret_V (and_T (isT_V (v_tup rfl) rfl) this))
theorem s_tupof_x (k : Nat) (s : Store) (v : PV) (n : Nat) (hv : v ≠ .und) (h : isTy s "tuple" v = some false) : callF lt.T (k + 1) "is_tuple_of" [v, ii n] s = .ok (.bl false) s :=
  call_pure t_tupof rfl (inb_bl _ _) (ret_V (and_F (isT_V (ev_v rfl hv) h)))
theorem bools_of (l : List Bool) : bools? (l.map .bl) = some l := by
  induction l with
  | nil => rfl
  | cons x l ih =>
    show (bools? (l.map .bl)).map (x :: ·) = _
    rw [ih]
    rfl
theorem all_V {C : Calls} {a : IE} {env : MP.Env} {s s1 : Store} {l : List Bool} (h : ev C a env s = .ok (.lst (l.map .bl)) s1) : ev C (.blt false .all1 (.cons a .nil)) env s = .ok (.bl (l.all id)) s1 := blt1_V h (by
  show (bools? (l.map .bl)).map (fun l => PV.bl (l.all id)) = _
  rw [bools_of]
  rfl)
/-- is_vector of a row of things each of a known kind -/
theorem s_vec (k : Nat) (s : Store) (xs : List PV) (n : Nat) (hz : xs.length ≤ 1000) (hx : ∀ x ∈ xs, Vl s x) : callF lt.T (k + 4) "is_vector" [.tup xs, ii n] s = .ok (.bl (decide (xs.length = n) && xs.all (isF none))) s := by
  have c1 := s_tupof_n (k + 2) s xs n
  have hc : ev (callsOf lt.T (k + 3)) (.comp false (.call "is_fraction" (.cons (.var 2) .nil)) (.one 2) [2] (.val (.var 0)) .no) [.tup xs, ii n, .und] s = .ok (.lst ((xs.map (isF none)).map .bl)) s := by
    have e := ev_compX (C := callsOf lt.T (k + 3)) (elt := .call "is_fraction" (.cons (.var 2) .nil)) (tg := .one 2) (own := [2]) (it := .val (.var 0)) (env := [.tup xs, ii n, .und]) (s := s) (h := fun x => x) (g := fun x => .bl (isF none x)) (live := []) (bx := false) xs (by rw [List.map_id']; exact it_T (v_tup rfl)) rfl (by omega) (fun x hxx => ⟨[.tup xs, ii n, x], rfl, call1_V (ev_v rfl (by
      cases hx x hxx with
      | no hv h => exact hv
      | len h => intro z; cases z
      | two _ _ _ => intro z; cases z
      | pair _ => intro z; cases z)) (s_isfr k s x (hx x hxx))⟩)
    rw [e, List.map_map]
    rfl
  have q := and_B (call2_V (f := "is_tuple_of") (v_tup (i := 0) rfl) (v_int (i := 1) rfl) c1) (fun _ => all_V hc)
  rw [List.all_map] at q
  exact call_pure t_vec rfl (inb_bl _ _) (ret_V q)
theorem s_vec_x (k : Nat) (s : Store) (v : PV) (n : Nat) (hv : v ≠ .und) (h : isTy s "tuple" v = some false) : callF lt.T (k + 4) "is_vector" [v, ii n] s = .ok (.bl false) s :=
  call_pure t_vec rfl (inb_bl _ _) (ret_V (and_F (call2_V (ev_v rfl hv) (v_int rfl) (s_tupof_x (k + 2) s v n hv h))))
end K55

/-! k55: divisors, cells. -/
namespace K55
open PySem L2 TL SX MP
abbrev lcmL (ns : List Nat) (d : Nat) : Nat := ns.foldl Nat.lcm d
theorem gI_nat (a b : Nat) : gI (a : Int) (b : Int) = ((Nat.gcd a b : Nat) : Int) := by
  unfold gI
  rw [Int.natAbs_natCast, Int.natAbs_natCast]
theorem lcm_div (d n : Nat) : d / Nat.gcd d n * n = Nat.lcm d n := by
  unfold Nat.lcm
  rw [Nat.mul_comm d n, Nat.mul_div_assoc _ (Nat.gcd_dvd_left d n), Nat.mul_comm]
theorem lcm_up {d n m : Nat} (hd : 0 < d ∧ d < 2 ^ m) (hn : 0 < n ∧ n < 2 ^ 30) : 0 < Nat.lcm d n ∧ Nat.lcm d n < 2 ^ (m + 30) := by
  refine ⟨Nat.lcm_pos hd.1 hn.1, ?_⟩
  have h1 : Nat.lcm d n ≤ d * n := Nat.le_of_dvd (Nat.mul_pos hd.1 hn.1) (Nat.lcm_dvd_mul d n)
  rw [Nat.pow_add]
  exact Nat.lt_of_le_of_lt h1 (Nat.mul_lt_mul_of_lt_of_lt hd.2 hn.2)
def Dn (ns : List Nat) : Prop := ∀ n ∈ ns, 0 < n ∧ n < 2 ^ 30
theorem lcmL_up : ∀ {ns : List Nat} {d m : Nat}, Dn ns → 0 < d ∧ d < 2 ^ m → 0 < lcmL ns d ∧ lcmL ns d < 2 ^ (m + 30 * ns.length)
  | [], d, m, _, h => h
  | n :: ns, d, m, hn, h => by
    have := lcmL_up (ns := ns) (fun x hx => hn x (List.mem_cons_of_mem _ hx)) (lcm_up h (hn n List.mem_cons_self))
    rw [List.length_cons, show m + 30 * (ns.length + 1) = m + 30 + 30 * ns.length by omega]
    exact this
def moB : ISs := .cons (.asg 1 (.bin false .mul (.bin false .fdiv (.var 1) (.call "common_divisor" (.cons (.var 1) (.cons (.var 2) .nil)))) (.var 2))) .nil
theorem gcd_up {d n m : Nat} (hd : 0 < d ∧ d < 2 ^ m) : 0 < Nat.gcd d n ∧ Nat.gcd d n < 2 ^ m := ⟨Nat.gcd_pos_of_pos_left _ hd.1, Nat.lt_of_le_of_lt (Nat.le_of_dvd hd.1 (Nat.gcd_dvd_left d n)) hd.2⟩
theorem mo_loop (k : Nat) (s : Store) (v : PV) : ∀ (ns : List Nat) (d m : Nat) (x : PV), Dn ns → 0 < d ∧ d < 2 ^ m → m + 30 * ns.length ≤ 300 → ∃ y, forLoop (bodyF (callsOf lt.T (k + 1)) (.one 2) moB) [] (ns.map ii) [v, ii d, x] s = .nx [v, ii (lcmL ns d), y] s
  | [], d, m, x, _, _, _ => ⟨x, for_nil rfl⟩
  | n :: ns, d, m, x, hn, hd, hm => by
    rw [List.length_cons] at hm
    have h1 := hn n List.mem_cons_self
    obtain ⟨y, e⟩ := mo_loop k s v ns (Nat.lcm d n) (m + 30) (ii n) (fun x hx => hn x (List.mem_cons_of_mem _ hx)) (lcm_up hd h1) (by omega)
    refine ⟨y, (for_nx rfl ?_).trans e⟩
    show exs (callsOf lt.T (k + 1)) moB [v, ii d, ii n] s = .nx [v, ii (Nat.lcm d n), ii n] s
    have g := gcd_up (n := n) hd
    have b1 := bits_nat g.2
    have b2 := bits_nat (Nat.lt_of_le_of_lt (Nat.div_le_self d (Nat.gcd d n)) hd.2)
    have b3 := bits_nat h1.2
    have c := s_cd k (d : Int) (n : Int) (by rw [Int.natAbs_natCast]; exact Nat.lt_of_lt_of_le h1.2 (pow_mono (by decide))) s
    rw [gI_nat] at c
    have f : ev (callsOf lt.T (k + 1)) (.bin false .fdiv (.var 1) (.call "common_divisor" (.cons (.var 1) (.cons (.var 2) .nil)))) [v, ii d, ii n] s = .ok (.int ((d / Nat.gcd d n : Nat) : Int)) s := by
      rw [Int.natCast_ediv]
      exact fdiv_V (v_int rfl) (call2_V (v_int rfl) (v_int rfl) c) ⟨by omega, by omega⟩
    refine asg_N ?_ nil_N
    show _ = Res.ok (PV.int ((Nat.lcm d n : Nat) : Int)) s
    rw [← lcm_div, Int.natCast_mul]
    exact mul_V f (v_int rfl) (by omega)
theorem t_mult : lt.T.fn "multiple_of" = some ⟨1, 3, b_f_multiple_of⟩ := by rfl
theorem s_mult (k : Nat) (s : Store) (ns : List Nat) (h : Dn ns) (hl : ns.length ≤ 9) : callF lt.T (k + 2) "multiple_of" [.lst (ns.map ii)] s = .ok (ii (lcmL ns 1)) s := by
  obtain ⟨y, e⟩ := mo_loop k s (.lst (ns.map ii)) ns 1 1 .und h ⟨by decide, by decide⟩ (by omega)
  refine call_pure t_mult rfl (inb_ii _ _) ?_
  show exs (callsOf lt.T (k + 1)) b_f_multiple_of [.lst (ns.map ii), .und, .und] s = _
  exact asg_N int_V (for_N (it_L (v_lst rfl)) e (ret_V (v_int rfl)))
/-- a point: fractions above divisors -/
abbrev Pt := List (Int × Nat)
def ptV (p : Pt) : PV := .tup (p.map tV)
structure OkP (p : Pt) : Prop where
  len : p.length ≤ 4
  dn : Dn (p.map (·.2))
  num : ∀ q ∈ p, q.1.natAbs < 2 ^ 60
  red : ∀ q ∈ p, Nat.gcd q.1.natAbs q.2 = 1
def divP (p : Pt) : Nat := lcmL (p.map (·.2)) 1
theorem divP_up {p : Pt} (h : OkP p) : 0 < divP p ∧ divP p < 2 ^ 121 := by
  have := lcmL_up (d := 1) (m := 1) h.dn ⟨by decide, by decide⟩
  rw [List.length_map] at this
  exact ⟨this.1, Nat.lt_of_lt_of_le this.2 (pow_mono (by have := h.len; omega))⟩
theorem t_div : lt.T.fn "divisor_of" = some ⟨1, 2, b_f_divisor_of⟩ := by rfl
theorem s_div (k : Nat) (s : Store) (p : Pt) (h : OkP p) : callF lt.T (k + 3) "divisor_of" [ptV p] s = .ok (ii (divP p)) s := by
  have e : ev (callsOf lt.T (k + 2)) (.comp false (.idx (.var 1) (.int 1)) (.one 1) [1] (.val (.var 0)) .no) [ptV p, .und] s = .ok (.lst ((p.map (·.2)).map ii)) s := by
    refine (ev_compX (h := tV) (g := fun q => ii q.2) (live := []) (bx := false) p (it_T (v_tup rfl)) rfl (by have := h.len; omega) (fun q _ => ⟨[ptV p, tV q], rfl, idx_V (v_tup rfl) int_V rfl⟩)).trans ?_
    rw [List.map_map]
    rfl
  exact call_pure t_div rfl (inb_ii _ _) (ret_V (call1_V e (s_mult k s _ h.dn (by rw [List.length_map]; have := h.len; omega))))
theorem t_over : lt.T.fn "whole_over" = some ⟨2, 2, b_f_whole_over⟩ := by rfl
theorem bits_int {i : Int} {m : Nat} (h : i.natAbs < 2 ^ m) : bits i ≤ m := by
  unfold bits
  by_cases q : i.natAbs = 0
  · rw [q]; simp
  · exact Nat.le_of_lt ((Nat.log2_lt q).mpr h)
def startX (D : Nat) (q : Int × Nat) : Int := q.1 * ((D / q.2 : Nat) : Int)
theorem s_over (k : Nat) (s : Store) (q : Int × Nat) (D : Nat) (h1 : q.1.natAbs < 2 ^ 60) (h2 : 0 < q.2 ∧ q.2 < 2 ^ 30) (h3 : D < 2 ^ 121) : callF lt.T (k + 1) "whole_over" [tV q, ii D] s = .ok (.int (startX D q)) s := by
  have b1 := bits_int h1
  have b2 := bits_nat h2.2
  have b3 := bits_nat (Nat.lt_of_le_of_lt (Nat.div_le_self D q.2) h3)
  have e : ev (callsOf lt.T k) (.bin false .fdiv (.var 1) (.idx (.var 0) (.int 1))) [tV q, ii D] s = .ok (.int ((D / q.2 : Nat) : Int)) s := by
    rw [Int.natCast_ediv]
    exact fdiv_V (v_int rfl) (idx_V (v_tup rfl) int_V rfl) ⟨by omega, by omega⟩
  exact call_pure t_over rfl (inb_int _ _) (ret_V (mul_V (idx_V (v_tup rfl) int_V rfl) e (by omega)))
end K55

/-! k55: cells. -/
namespace K55
open PySem L2 TL SX MP
def xAt (xs : List Int) (c : Nat) : Int := xs.getD c 0
def valR (xs : List Int) (sc : Int) : Row → Int
  | .rest c => if xAt xs c > 0 then xAt xs c else 0
  | .gr cs => ((cs.map (xAt xs)).tail).foldl max ((cs.map (xAt xs)).headD 0)
  | .sum ts b _ => (ts.map fun t => t.1 * xAt xs t.2).sum + b * sc
theorem xs_at {xs : List Int} {c : Nat} (h : c < xs.length) : (xs.map PV.int)[c]? = some (.int (xAt xs c)) := by
  rw [List.getElem?_map, List.getElem?_eq_getElem h]
  unfold xAt
  rw [List.getD_eq_getElem?_getD, List.getElem?_eq_getElem h]
  rfl
theorem t_value : lt.T.fn "value_of_row" = some ⟨3, 5, b_f_value_of_row⟩ := by rfl
def XB (m : Nat) (xs : List Int) : Prop := ∀ x ∈ xs, x.natAbs < 2 ^ m
theorem xAt_up {m : Nat} {xs : List Int} (h : XB m xs) (c : Nat) : (xAt xs c).natAbs < 2 ^ m := by
  unfold xAt
  by_cases q : c < xs.length
  · rw [List.getD_eq_getElem?_getD, List.getElem?_eq_getElem q]
    exact h _ (List.getElem_mem q)
  · rw [List.getD_eq_getElem?_getD, List.getElem?_eq_none (by omega)]
    exact Nat.pow_pos (by decide)
theorem s_value (k : Nat) (s : Store) (fs : List Nat) (r : Row) (n : Nat) (xs : List Int) (sc : Int) (h : OkR fs r) (hx : s[n]? = some (.lst (xs.map .int))) (hl : xs.length = fs.length) (hb : XB 3000 xs) (hsc : sc.natAbs < 2 ^ 300) : callF lt.T (k + 1) "value_of_row" [rowV r, .obj n, .int sc] s = .ok (.int (valR xs sc r)) s := by
  have at_ : ∀ c ∈ readR r, idxSem s (.obj n) (.int (c : Nat)) = some (.int (xAt xs c)) := fun c hc => idx_O hx (xs_at (by rw [hl]; exact h.lt c hc))
  refine call_pure t_value rfl (inb_int _ _) ?_
  show exs (callsOf lt.T k) b_f_value_of_row [rowV r, .obj n, .int sc, .und, .und] s = _
  cases r with
  | rest c =>
    refine ife_Tr (eqs_T (idx_V (v_tup rfl) int_V rfl) str_V rfl) (blt2_V int_V (idx_V (v_obj rfl) (idx_V (v_tup rfl) int_V rfl) (at_ c (List.mem_singleton.mpr rfl))) ?_)
    rfl
  | gr cs =>
    refine ife_Fn (eqs_F (idx_V (v_tup rfl) int_V rfl) str_V (by decide)) ?_
    refine ife_Tr (eqs_T (idx_V (v_tup rfl) int_V rfl) str_V rfl) ?_
    have e : ev (callsOf lt.T k) (.comp false (.idx (.var 1) (.var 3)) (.one 3) [3] (.val (.idx (.var 0) (.int 1))) .no) [rowV (.gr cs), .obj n, .int sc, .und, .und] s = .ok (.lst ((cs.map (xAt xs)).map .int)) s := by
      refine (ev_compX (h := ii) (g := fun c => .int (xAt xs c)) (live := []) (bx := false) cs (it_T (idx_V (v_tup rfl) int_V rfl)) rfl (by have : cs.length < 64 := h.len; omega) (fun c hc => ⟨[rowV (.gr cs), .obj n, .int sc, ii c, .und], rfl, idx_V (v_obj rfl) (v_int rfl) (at_ c hc)⟩)).trans ?_
      rw [List.map_map]
      rfl
    cases cs with
    | nil => exact absurd rfl h.ne
    | cons c cs => exact max_V e
  | sum ts b f =>
    refine ife_Fn (eqs_F (idx_V (v_tup rfl) int_V rfl) str_V (by decide)) ?_
    refine ife_Fn (eqs_F (idx_V (v_tup rfl) int_V rfl) str_V (by decide)) ?_
    have e : ev (callsOf lt.T k) (.comp false (.bin false .mul (.var 4) (.idx (.var 1) (.var 3))) (.many [4, 3]) [4, 3] (.val (.idx (.var 0) (.int 1))) .no) [rowV (.sum ts b f), .obj n, .int sc, .und, .und] s = .ok (.lst ((ts.map fun t => t.1 * xAt xs t.2).map .int)) s := by
      refine (ev_compX (h := tV) (g := fun t => .int (t.1 * xAt xs t.2)) (live := []) (bx := false) ts (it_T (idx_V (v_tup rfl) int_V rfl)) rfl (by have : (ts.map (·.2)).length < 64 := h.len; rw [List.length_map] at this; omega) (fun t ht => ⟨[rowV (.sum ts b f), .obj n, .int sc, ii t.2, .int t.1], rfl, mul_V (v_int rfl) (idx_V (v_obj rfl) (v_int rfl) (at_ t.2 (List.mem_map_of_mem ht))) ?_⟩)).trans ?_
      · have b1 := bits_int (h.up.2.1 t ht)
        have b2 := bits_int (xAt_up hb t.2)
        omega
      · rw [List.map_map]
        rfl
    have b1 := bits_int h.up.2.2.1
    have b2 := bits_int hsc
    exact ret_V (add_V (sum_V e) (mul_V (idx_V (v_tup rfl) int_V rfl) (v_int rfl) (by omega)))
theorem t_first : lt.T.fn "first_read" = some ⟨1, 1, b_f_first_read⟩ := by rfl
theorem s_first (k : Nat) (s : Store) (r : Row) (h : readR r ≠ []) : callF lt.T (k + 1) "first_read" [rowV r] s = .ok (ii (headR r)) s := by
  refine call_pure t_first rfl (inb_ii _ _) ?_
  show exs (callsOf lt.T k) b_f_first_read [rowV r] s = _
  cases r with
  | sum ts b f =>
    cases ts with
    | nil => exact absurd rfl h
    | cons t ts => exact ret_V (MP.ife_T (eqs_T (idx_V (v_tup rfl) int_V rfl) str_V rfl) (idx_V (x := tV t) (idx_V (idx_V (v_tup rfl) int_V rfl) (int_V (k := ((0 : Nat) : Int))) (idx_Tn (xs := (t :: ts).map tV) rfl)) int_V rfl))
  | rest c => exact ret_V (MP.ife_F (eqs_F (idx_V (v_tup rfl) int_V rfl) str_V (by decide)) (MP.ife_T (eqs_T (idx_V (v_tup rfl) int_V rfl) str_V rfl) (idx_V (v_tup rfl) int_V rfl)))
  | gr cs =>
    cases cs with
    | nil => exact absurd rfl h
    | cons c cs => exact ret_V (MP.ife_F (eqs_F (idx_V (v_tup rfl) int_V rfl) str_V (by decide)) (MP.ife_F (eqs_F (idx_V (v_tup rfl) int_V rfl) str_V (by decide)) (idx_V (idx_V (v_tup rfl) int_V rfl) (int_V (k := ((0 : Nat) : Int))) (idx_Tn (xs := (c :: cs).map ii) rfl))))
/-! ### all cells -/
def cellsL (D : Nat) : List Nat → List Int → List Row → List Int
  | _, xs, [] => xs
  | fs, xs, r :: rs => cellsL D (fs ++ [nextF fs r]) (xs ++ [valR xs ((D * fs.getD (headR r) 0 : Nat) : Int) r]) rs
theorem facs_pre : ∀ (rs : List Row) (fs : List Nat), ∃ t, facs fs rs = fs ++ t
  | [], fs => ⟨[], by rw [List.append_nil]; rfl⟩
  | r :: rs, fs => by
    obtain ⟨t, e⟩ := facs_pre rs (fs ++ [nextF fs r])
    exact ⟨nextF fs r :: t, by rw [facs, e, List.append_assoc]; rfl⟩
theorem foldl_max_up {m : Nat} : ∀ (l : List Int) (x : Int), x.natAbs < 2 ^ m → (∀ y ∈ l, y.natAbs < 2 ^ m) → (l.foldl max x).natAbs < 2 ^ m
  | [], x, h, _ => h
  | y :: l, x, h, hl => foldl_max_up l (max x y) (by
      rcases Int.le_total x y with q | q
      · rw [Int.max_eq_right q]; exact hl y List.mem_cons_self
      · rw [Int.max_eq_left q]; exact h) fun z hz => hl z (List.mem_cons_of_mem _ hz)
theorem sum_up {B : Nat} : ∀ (l : List Int), (∀ y ∈ l, y.natAbs ≤ B) → l.sum.natAbs ≤ l.length * B
  | [], _ => by simp
  | y :: l, h => by
    have h1 := h y List.mem_cons_self
    have h2 := sum_up l fun z hz => h z (List.mem_cons_of_mem _ hz)
    rw [List.sum_cons, List.length_cons, Nat.succ_mul]
    omega
theorem valR_up {m : Nat} {fs : List Nat} {xs : List Int} {sc : Int} {r : Row} (h : OkR fs r) (hb : XB m xs) (hm : 300 ≤ m) (hsc : sc.natAbs < 2 ^ 165) : (valR xs sc r).natAbs < 2 ^ (m + 150) := by
  have up : ∀ c, (xAt xs c).natAbs < 2 ^ m := xAt_up hb
  have mono : (2 : Nat) ^ m ≤ 2 ^ (m + 150) := pow_mono (by omega)
  cases r with
  | rest c =>
    show (if xAt xs c > 0 then xAt xs c else 0).natAbs < _
    have := up c
    split <;> omega
  | gr cs =>
    have h1 : ∀ y ∈ (cs.map (xAt xs)).tail, y.natAbs < 2 ^ m := fun y hy => by
      obtain ⟨c, _, rfl⟩ := List.mem_map.mp (List.mem_of_mem_tail hy)
      exact up c
    have h2 : ((cs.map (xAt xs)).headD 0).natAbs < 2 ^ m := by
      cases cs with
      | nil => exact Nat.pow_pos (by decide)
      | cons c cs => exact up c
    exact Nat.lt_of_lt_of_le (foldl_max_up _ _ h2 h1) mono
  | sum ts b f =>
    have h1 : ∀ y ∈ ts.map fun t => t.1 * xAt xs t.2, y.natAbs ≤ 2 ^ 134 * 2 ^ m := fun y hy => by
      obtain ⟨t, ht, rfl⟩ := List.mem_map.mp hy
      rw [Int.natAbs_mul]
      exact Nat.mul_le_mul (Nat.le_of_lt (h.up.2.1 t ht)) (Nat.le_of_lt (up t.2))
    have h2 := sum_up _ h1
    have h3 : (ts.map fun t => t.1 * xAt xs t.2).length < 64 := by
      rw [List.length_map]
      have : (ts.map (·.2)).length < 64 := h.len
      rwa [List.length_map] at this
    have h4 : (b * sc).natAbs ≤ 2 ^ 134 * 2 ^ 165 := by
      rw [Int.natAbs_mul]
      exact Nat.mul_le_mul (Nat.le_of_lt h.up.2.2.1) (Nat.le_of_lt hsc)
    show ((ts.map fun t => t.1 * xAt xs t.2).sum + b * sc).natAbs < _
    have e1 : (2 : Nat) ^ 134 * 2 ^ 165 ≤ 2 ^ m := by
      rw [← Nat.pow_add]
      exact pow_mono (by omega)
    have e2 : (ts.map fun t => t.1 * xAt xs t.2).length * (2 ^ 134 * 2 ^ m) ≤ 63 * (2 ^ 134 * 2 ^ m) := Nat.mul_le_mul_right _ (by omega)
    have e3 : (2 : Nat) ^ (m + 150) = 2 ^ 16 * (2 ^ 134 * 2 ^ m) := by
      rw [← Nat.pow_add, ← Nat.pow_add]
      congr 1
      omega
    have e4 : (2 : Nat) ^ m ≤ 2 ^ 134 * 2 ^ m := Nat.le_mul_of_pos_left _ (Nat.pow_pos (by decide))
    rw [e3]
    have e5 : (2 : Nat) ^ 16 = 65536 := by decide
    rw [e5]
    generalize (2 : Nat) ^ 134 * 2 ^ m = Y at *
    have e6 : 0 < Y := by
      have : 0 < (2 : Nat) ^ m := Nat.pow_pos (by decide)
      omega
    omega
end K55

/-! k55: whole_cells, ran_whole. -/
namespace K55
open PySem L2 TL SX MP
def clB : ISs := .cons (.expr (.meth .append (.var 2) (.cons (.call "value_of_row" (.cons (.var 3) (.cons (.var 2) (.cons (.bin false .mul (.var 4) (.idx (.var 5) (.call "first_read" (.cons (.var 3) .nil)))) .nil)))) .nil))) .nil
theorem getD_app {fs t : List Nat} {c : Nat} (h : c < fs.length) : (fs ++ t).getD c 0 = fs.getD c 0 := by
  rw [List.getD_eq_getElem?_getD, List.getD_eq_getElem?_getD, List.getElem?_append_left h]
theorem cl_turn (k : Nat) (s : Store) (D : Nat) (F fs t : List Nat) (xs : List Int) (r : Row) (cv pv x3 : PV) (hF : F = fs ++ t) (h : OkR fs r) (hD : D < 2 ^ 121) (hu : Up 60 fs) (hl : xs.length = fs.length) (hz : fs.length < 1000) (hb : XB 3000 xs) :
    bodyF (callsOf lt.T (k + 1)) (.one 3) clB (rowV r) [cv, pv, .obj s.length, x3, ii D, .lst (F.map ii), .und] (s ++ [.lst (xs.map .int)]) = .nx [cv, pv, .obj s.length, rowV r, ii D, .lst (F.map ii), .und] (s ++ [.lst ((xs ++ [valR xs ((D * fs.getD (headR r) 0 : Nat) : Int) r]).map .int)]) := by
  have hh : headR r < fs.length := h.lt _ (List.mem_of_getElem? (head_at h.ne))
  have hs : (s ++ [SO.lst (xs.map PV.int)])[s.length]? = some (.lst (xs.map .int)) := at_new
  have hm : fs.getD (headR r) 0 < 2 ^ 60 := (hu _ (List.mem_of_getElem? (getD_at hh))).2
  show exs (callsOf lt.T (k + 1)) clB [cv, pv, .obj s.length, rowV r, ii D, .lst (F.map ii), .und] (s ++ [.lst (xs.map .int)]) = _
  have fa : (F.map ii)[headR r]? = some (ii (fs.getD (headR r) 0)) := by
    rw [List.getElem?_map, hF, List.getElem?_append_left hh, getD_at hh]
    rfl
  have e1 : ev (callsOf lt.T (k + 1)) (.bin false .mul (.var 4) (.idx (.var 5) (.call "first_read" (.cons (.var 3) .nil)))) [cv, pv, .obj s.length, rowV r, ii D, .lst (F.map ii), .und] (s ++ [.lst (xs.map .int)]) = .ok (.int ((D * fs.getD (headR r) 0 : Nat) : Int)) (s ++ [.lst (xs.map .int)]) := by
    rw [Int.natCast_mul]
    have b1 := bits_nat hD
    have b2 := bits_nat hm
    exact mul_V (v_int rfl) (idx_V (v_lst rfl) (call1_V (ev_v rfl (row_nu r)) (s_first k _ r h.ne)) (idx_Ln fa)) (by omega)
  have e2 := s_value k (s ++ [.lst (xs.map .int)]) fs r s.length xs ((D * fs.getD (headR r) 0 : Nat) : Int) h hs hl hb (by
    rw [Int.natAbs_natCast]
    have : D * fs.getD (headR r) 0 < 2 ^ 121 * 2 ^ 60 := Nat.mul_lt_mul_of_lt_of_lt hD hm
    rw [← Nat.pow_add] at this
    exact Nat.lt_of_lt_of_le this (pow_mono (by decide)))
  refine expr_N (append_V (v_obj rfl) hs (call3_V (ev_v rfl (row_nu r)) (v_obj rfl) e1 e2) hs (by rw [List.length_map]; omega)) ?_
  rw [nil_N, set_new, List.map_append]
  rfl
theorem XB.next {m : Nat} {fs : List Nat} {xs : List Int} {sc : Int} {r : Row} (h : OkR fs r) (hb : XB m xs) (hm : 300 ≤ m) (hsc : sc.natAbs < 2 ^ 165) : XB (m + 150) (xs ++ [valR xs sc r]) := fun x hx => by
  rcases List.mem_append.mp hx with hx | hx
  · exact Nat.lt_of_lt_of_le (hb x hx) (pow_mono (by omega))
  · rw [List.mem_singleton.mp hx]
    exact valR_up h hb hm hsc
theorem sc_up {D : Nat} {fs : List Nat} {r : Row} {u : Nat} (h : OkR fs r) (hD : D < 2 ^ 121) (hu : Up u fs) (hl : u ≤ 44) : (((D * fs.getD (headR r) 0 : Nat) : Int)).natAbs < 2 ^ 165 := by
  have hh : headR r < fs.length := h.lt _ (List.mem_of_getElem? (head_at h.ne))
  have hm : fs.getD (headR r) 0 < 2 ^ u := (hu _ (List.mem_of_getElem? (getD_at hh))).2
  rw [Int.natAbs_natCast]
  have : D * fs.getD (headR r) 0 < 2 ^ 121 * 2 ^ u := Nat.mul_lt_mul_of_lt_of_lt hD hm
  rw [← Nat.pow_add] at this
  exact Nat.lt_of_lt_of_le this (pow_mono (by omega))
theorem cl_loop (k : Nat) (s : Store) (D : Nat) (hD : D < 2 ^ 121) (cv pv : PV) : ∀ (rs : List Row) (fs : List Nat) (xs : List Int) (m u : Nat) (x3 : PV), OkRs fs rs → Up u fs → u + 5 * rs.length ≤ 49 → XB m xs → 300 ≤ m → m + 150 * rs.length ≤ 3000 → xs.length = fs.length → fs.length + rs.length < 1000 →
    ∃ y3, forLoop (bodyF (callsOf lt.T (k + 1)) (.one 3) clB) [] (rs.map rowV) [cv, pv, .obj s.length, x3, ii D, .lst ((facs fs rs).map ii), .und] (s ++ [.lst (xs.map .int)]) = .nx [cv, pv, .obj s.length, y3, ii D, .lst ((facs fs rs).map ii), .und] (s ++ [.lst ((cellsL D fs xs rs).map .int)])
  | [], fs, xs, m, u, x3, _, _, _, _, _, _, _, _ => ⟨x3, for_nil rfl⟩
  | r :: rs, fs, xs, m, u, x3, ho, hu, hul, hb, hm, hml, hl, hz => by
    rw [List.length_cons] at hz hml hul
    obtain ⟨t, et⟩ := facs_pre (r :: rs) fs
    have tn := cl_turn k s D (facs fs (r :: rs)) fs t xs r cv pv x3 et ho.1 hD (fun x hx => ⟨(hu x hx).1, Nat.lt_of_lt_of_le (hu x hx).2 (pow_mono (by omega))⟩) hl (by omega) (fun x hx => Nat.lt_of_lt_of_le (hb x hx) (pow_mono (by omega)))
    obtain ⟨y3, e⟩ := cl_loop k s D hD cv pv rs (fs ++ [nextF fs r]) (xs ++ [valR xs ((D * fs.getD (headR r) 0 : Nat) : Int) r]) (m + 150) (u + 5) (rowV r) ho.2 (hu.next ho.1) (by omega) (hb.next ho.1 hm (sc_up ho.1 hD hu (by omega))) (by omega) (by omega) (by rw [List.length_append, List.length_append, hl]; rfl) (by rw [List.length_append, List.length_singleton]; omega)
    exact ⟨y3, (for_nx rfl tn).trans e⟩
def cellsC (c : Code) (p : Pt) : List Int := cellsL (divP p) (List.replicate c.n 1) (p.map (startX (divP p))) c.rows
theorem cellsL_up {D : Nat} (hD : D < 2 ^ 121) : ∀ {rs : List Row} {fs : List Nat} {xs : List Int} {m u : Nat}, OkRs fs rs → Up u fs → u + 5 * rs.length ≤ 49 → XB m xs → 300 ≤ m → XB (m + 150 * rs.length) (cellsL D fs xs rs)
  | [], fs, xs, m, u, _, _, _, h, _ => h
  | r :: rs, fs, xs, m, u, ho, hu, hul, h, hm => by
    rw [List.length_cons] at hul ⊢
    have := cellsL_up hD (rs := rs) (m := m + 150) (u := u + 5) ho.2 (hu.next ho.1) (by omega) (h.next ho.1 hm (sc_up ho.1 hD hu (by omega))) (by omega)
    rw [show m + 150 * (rs.length + 1) = m + 150 + 150 * rs.length by omega]
    exact this
theorem cellsL_len {D : Nat} : ∀ {rs : List Row} {fs : List Nat} {xs : List Int}, (cellsL D fs xs rs).length = xs.length + rs.length
  | [], fs, xs => rfl
  | r :: rs, fs, xs => by
    rw [cellsL, cellsL_len (rs := rs), List.length_append, List.length_cons, List.length_cons, List.length_nil]
    omega
theorem startX_up {p : Pt} (h : OkP p) : XB 300 (p.map (startX (divP p))) := fun x hx => by
  obtain ⟨q, hq, rfl⟩ := List.mem_map.mp hx
  unfold startX
  rw [Int.natAbs_mul, Int.natAbs_natCast]
  have h1 := h.num q hq
  have h2 := Nat.lt_of_le_of_lt (Nat.div_le_self (divP p) q.2) (divP_up h).2
  have := Nat.mul_lt_mul_of_lt_of_lt h1 h2
  rw [← Nat.pow_add] at this
  exact Nat.lt_of_lt_of_le this (pow_mono (by decide))
theorem t_led : lt.T.fn "cells_led" = some ⟨2, 7, b_f_cells_led⟩ := by rfl
theorem led_eq : b_f_cells_led = .cons (.asgt [4, 5] (.tup (.cons (.call "divisor_of" (.cons (.var 1) .nil)) (.cons (.call "factors_met" (.cons (.var 0) .nil)) .nil)))) (.cons (.asg 2 (.comp true (.call "whole_over" (.cons (.var 6) (.cons (.var 4) .nil))) (.one 6) [6] (.val (.var 1)) .no)) (.cons (.for (.one 3) (.val (.idx (.var 0) (.int 1))) clB) (.cons (.ret (.tup (.cons (.var 4) (.cons (.var 2) .nil)))) .nil))) := by rfl
theorem inbs_ints (k : Nat) (l : List Int) : PV.inbs k (l.map .int) = true := by
  rw [inbs_all]
  exact List.all_eq_true.mpr fun x hx => by
    obtain ⟨n, _, rfl⟩ := List.mem_map.mp hx
    exact inb_int _ _
theorem s_led (k : Nat) (s : Store) (c : Code) (p : Pt) (h : OkC c) (hp : OkP p) (hn : p.length = c.n) : callF lt.T (k + 4) "cells_led" [codeV c, ptV p] s = .ok (.tup [ii (divP p), .lst ((cellsC c p).map .int)]) s := by
  have hD := divP_up hp
  have e1 : ev (callsOf lt.T (k + 3)) (.tup (.cons (.call "divisor_of" (.cons (.var 1) .nil)) (.cons (.call "factors_met" (.cons (.var 0) .nil)) .nil))) [codeV c, ptV p, .und, .und, .und, .und, .und] s = .ok (.tup [ii (divP p), .lst ((facC c).map ii)]) s :=
    tup_V (es2 (call1_V (v_tup rfl) (s_div k s p hp)) (call1_V (v_tup rfl) (s_fm (k + 1) s c h))) (show 2 ≤ 16777216 by decide)
  have e2 : ev (callsOf lt.T (k + 3)) (.comp true (.call "whole_over" (.cons (.var 6) (.cons (.var 4) .nil))) (.one 6) [6] (.val (.var 1)) .no) [codeV c, ptV p, .und, .und, ii (divP p), .lst ((facC c).map ii), .und] s = .ok (.obj s.length) (s ++ [.lst ((p.map (startX (divP p))).map .int)]) := by
    refine (ev_compX (h := tV) (g := fun q => .int (startX (divP p) q)) (live := []) (bx := true) p (it_T (v_tup rfl)) rfl (by have := hp.len; omega) (fun q hq => ⟨[codeV c, ptV p, .und, .und, ii (divP p), .lst ((facC c).map ii), tV q], rfl, call2_V (v_tup rfl) (v_int rfl) (s_over (k + 2) s q _ (hp.num q hq) (hp.dn _ (List.mem_map_of_mem hq)) hD.2)⟩)).trans ?_
    rw [List.map_map]
    rfl
  have hm := h.m
  have n2 := h.n2
  obtain ⟨y3, e3⟩ := cl_loop (k + 2) s (divP p) hD.2 (codeV c) (ptV p) c.rows (List.replicate c.n 1) (p.map (startX (divP p))) 300 1 .und h.rows (up_one _) (by omega) (startX_up hp) (by omega) (by omega) (by rw [List.length_map, List.length_replicate]; exact hn) (by rw [List.length_replicate]; omega)
  refine call_tl (B := [.lst ((cellsC c p).map .int)]) (n := s.length) t_led rfl (inb_ii _ _) (Nat.le_refl _) at_new (inbs_ints _ _) ?_
  show exs (callsOf lt.T (k + 3)) b_f_cells_led [codeV c, ptV p, .und, .und, .und, .und, .und] s = _
  rw [led_eq]
  exact asgt2_N e1 (asg_N e2 (for_N (it_T (idx_V (v_tup rfl) int_V rfl)) e3 (ret_V (tup_V (es2 (v_int rfl) (v_obj rfl)) (show 2 ≤ 16777216 by decide)))))
/-! ### need_code_run -/
theorem vl_tV {s : Store} {p : Pt} (hp : OkP p) {q : Int × Nat} (hq : q ∈ p) : Vl s (tV q) :=
  .pair ⟨Nat.lt_of_lt_of_le (hp.num q hq) (pow_mono (by decide)), by rw [Int.natAbs_natCast]; exact Nat.lt_of_lt_of_le (hp.dn _ (List.mem_map_of_mem hq)).2 (pow_mono (by decide))⟩
theorem isF_tV {p : Pt} (hp : OkP p) {q : Int × Nat} (hq : q ∈ p) : isF none (tV q) = true := by
  show (frB q.1 (q.2 : Int) && true) = true
  have h1 := (hp.dn _ (List.mem_map_of_mem hq)).1
  have h2 := hp.red q hq
  unfold frB gI
  rw [Int.natAbs_natCast, h2, decide_eq_true (show (1 : Int) ≤ (q.2 : Int) by omega)]
  rfl
theorem s_vecP (k : Nat) (s : Store) (p : Pt) (hp : OkP p) : callF lt.T (k + 4) "is_vector" [ptV p, ii p.length] s = .ok (.bl true) s := by
  have e := s_vec k s (p.map tV) p.length (by rw [List.length_map]; have := hp.len; omega) (fun x hx => by
    obtain ⟨q, hq, rfl⟩ := List.mem_map.mp hx
    exact vl_tV hp hq)
  rw [List.length_map, decide_eq_true rfl, Bool.true_and] at e
  have : (p.map tV).all (isF none) = true := List.all_eq_true.mpr fun x hx => by
    obtain ⟨q, hq, rfl⟩ := List.mem_map.mp hx
    exact isF_tV hp hq
  rw [this] at e
  exact e
theorem t_nrun : lt.T.fn "need_code_run" = some ⟨2, 2, b_f_need_code_run⟩ := by rfl
theorem s_nrun (k : Nat) (s : Store) (c : Code) (p : Pt) (h : OkC c) (hp : OkP p) (hn : p.length = c.n) : callF lt.T (k + 9) "need_code_run" [codeV c, ptV p] s = .ok .non s := by
  have e := s_vecP (k + 4) s p hp
  rw [hn] at e
  exact call_nx (env := [codeV c, ptV p]) t_nrun rfl (expr_N (call1_V (v_tup rfl) (s_needcode k s c h)) (ife_Fn (nt_F (call2_V (v_tup rfl) (idx_V (v_tup rfl) int_V rfl) e)) nil_N))
abbrev BI : PV := .exc "BadInput" []
/-- what is no vector of the inputs -/
theorem s_nrun_x (k : Nat) (s : Store) (c : Code) (v : PV) (h : OkC c) (hv : v ≠ .und) (hx : callF lt.T (k + 8) "is_vector" [v, ii c.n] s = .ok (.bl false) s) : callF lt.T (k + 9) "need_code_run" [codeV c, v] s = .exc BI s :=
  call_exc (env := [codeV c, v]) t_nrun rfl (inb_exc _ _) (expr_N (call1_V (v_tup rfl) (s_needcode k s c h)) (ifs_Tx (nt_T (call2_V (ev_v rfl hv) (idx_V (v_tup rfl) int_V rfl) hx)) (raise0_V (gfld _ _)) fun _ => rfl))
theorem t_wc : lt.T.fn "whole_cells" = some ⟨2, 4, b_f_whole_cells⟩ := by rfl
theorem s_wc (k : Nat) (s : Store) (c : Code) (p : Pt) (h : OkC c) (hp : OkP p) (hn : p.length = c.n) : callF lt.T (k + 10) "whole_cells" [codeV c, ptV p] s = .ok (.tup [ii (divP p), .tup ((cellsC c p).map .int)]) s := by
  refine call_pure t_wc rfl ?_ (expr_N (call2_V (v_tup rfl) (v_tup rfl) (s_nrun k s c p h hp hn)) (asgt2_N (call2_V (v_tup rfl) (v_tup rfl) (s_led (k + 5) s c p h hp hn)) (ret_V (tup_V (es2 (v_int rfl) (blt1_V (v_lst rfl) rfl)) (show 2 ≤ 16777216 by decide)))))
  rw [PV.inb, inbs_cons, inbs_cons, inb_ii, PV.inb, inbs_ints]
  rfl
theorem s_wc_x (k : Nat) (s : Store) (c : Code) (v : PV) (h : OkC c) (hv : v ≠ .und) (hx : callF lt.T (k + 8) "is_vector" [v, ii c.n] s = .ok (.bl false) s) : callF lt.T (k + 10) "whole_cells" [codeV c, v] s = .exc BI s :=
  call_exc (env := [codeV c, v, .und, .und]) t_wc rfl (inb_exc _ _) (expr_X (call2_V (v_tup rfl) (ev_v rfl hv) (s_nrun_x k s c v h hv hx)))
theorem t_frw : lt.T.fn "fraction_of_wholes" = some ⟨2, 2, b_f_fraction_of_wholes⟩ := by rfl
theorem s_frw (k : Nat) (s : Store) (n d : Int) (hd : d ≠ 0) (hb : d.natAbs < 2 ^ 499) : callF lt.T (k + 3) "fraction_of_wholes" [.int n, .int d] s = .ok (Q (lowP n d)) s :=
  call_pure t_frw rfl (inb_Q _ _) (ret_V (call2_V (v_int rfl) (v_int rfl) (s_red k n d hd hb s)))
def outC (c : Code) (p : Pt) (o : Nat) : Int × Int := lowP (xAt (cellsC c p) o) ((divP p * (facC c).getD o 0 : Nat) : Int)
theorem facC_up {c : Code} (h : OkC c) : Up 46 (facC c) := fun x hx => by
  have := facs_up h.rows (up_one _) x hx
  exact ⟨this.1, Nat.lt_of_lt_of_le this.2 (pow_mono (by have := h.m; omega))⟩
theorem t_rw : lt.T.fn "ran_whole" = some ⟨2, 6, b_f_ran_whole⟩ := by rfl
theorem s_rw (k : Nat) (s : Store) (c : Code) (p : Pt) (h : OkC c) (hp : OkP p) (hn : p.length = c.n) : callF lt.T (k + 10) "ran_whole" [codeV c, ptV p] s = .ok (.tup (c.outs.map fun o => Q (outC c p o))) s := by
  have hD := divP_up hp
  have cl : (cellsC c p).length = c.n + c.rows.length := by
    unfold cellsC
    rw [cellsL_len, List.length_map, hn]
  have e : ev (callsOf lt.T (k + 9)) (.comp false (.call "fraction_of_wholes" (.cons (.idx (.var 4) (.var 5)) (.cons (.bin false .mul (.var 3) (.idx (.var 2) (.var 5))) .nil))) (.one 5) [5] (.val (.idx (.var 0) (.int 2))) .no) [codeV c, ptV p, .lst ((facC c).map ii), ii (divP p), .lst ((cellsC c p).map .int), .und] s = .ok (.lst (c.outs.map fun o => Q (outC c p o))) s := by
    refine (ev_compX (h := ii) (g := fun o => Q (outC c p o)) (live := []) (bx := false) c.outs (it_T (idx_V (v_tup rfl) int_V rfl)) rfl (by have := h.o2; omega) (fun o ho => ⟨[codeV c, ptV p, .lst ((facC c).map ii), ii (divP p), .lst ((cellsC c p).map .int), ii o], rfl, ?_⟩)).trans rfl
    have hlt := h.outs o ho
    have hf : ((facC c).map ii)[o]? = some (ii ((facC c).getD o 0)) := by
      rw [List.getElem?_map, getD_at (by rw [facC_len]; exact hlt)]
      rfl
    have hu := facC_up h _ (List.mem_of_getElem? (getD_at (l := facC c) (c := o) (by rw [facC_len]; exact hlt)))
    have b1 := bits_nat hD.2
    have b2 := bits_nat hu.2
    have e1 : ev (callsOf lt.T (k + 9)) (.bin false .mul (.var 3) (.idx (.var 2) (.var 5))) [codeV c, ptV p, .lst ((facC c).map ii), ii (divP p), .lst ((cellsC c p).map .int), ii o] s = .ok (.int ((divP p * (facC c).getD o 0 : Nat) : Int)) s := by
      rw [Int.natCast_mul]
      exact mul_V (v_int rfl) (idx_V (v_lst rfl) (v_int rfl) (idx_Ln hf)) (by omega)
    have hpos : 0 < divP p * (facC c).getD o 0 := Nat.mul_pos hD.1 hu.1
    have hlt2 : divP p * (facC c).getD o 0 < 2 ^ 499 := by
      have : divP p * (facC c).getD o 0 < 2 ^ 121 * 2 ^ 46 := Nat.mul_lt_mul_of_lt_of_lt hD.2 hu.2
      rw [← Nat.pow_add] at this
      exact Nat.lt_of_lt_of_le this (pow_mono (by decide))
    exact call2_V (idx_V (v_lst rfl) (v_int rfl) (idx_Ln (xs_at (by rw [cl]; exact hlt)))) e1 (s_frw (k + 6) s _ _ (by omega) (by rw [Int.natAbs_natCast]; exact hlt2))
  refine call_pure t_rw rfl ?_ (expr_N (call2_V (v_tup rfl) (v_tup rfl) (s_nrun k s c p h hp hn)) (asgt2_N (call2_V (v_tup rfl) (v_tup rfl) (s_led (k + 5) s c p h hp hn)) (asg_N (call1_V (v_tup rfl) (s_fm (k + 7) s c h)) (ret_V (blt1_V e rfl)))))
  rw [PV.inb, inbs_all]
  exact List.all_eq_true.mpr fun x hx => by
    obtain ⟨o, _, rfl⟩ := List.mem_map.mp hx
    exact inb_Q _ _
theorem s_rw_x (k : Nat) (s : Store) (c : Code) (v : PV) (h : OkC c) (hv : v ≠ .und) (hx : callF lt.T (k + 8) "is_vector" [v, ii c.n] s = .ok (.bl false) s) : callF lt.T (k + 10) "ran_whole" [codeV c, v] s = .exc BI s :=
  call_exc (env := [codeV c, v, .und, .und, .und, .und]) t_rw rfl (inb_exc _ _) (expr_X (call2_V (v_tup rfl) (ev_v rfl hv) (s_nrun_x k s c v h hv hx)))
end K55

/-! k55: the law's own fractions. -/
namespace K55
open PySem L2 TL SX MP
/-! ### lowest terms, plain -/
theorem low_pos {n d : Int} (hd : 0 < d) : lowP n d = (n / gI n d, d / gI n d) := by
  unfold lowP
  rw [if_neg (by omega), show (d.natAbs : Int) = d by omega]
theorem gI_mul {n d k : Int} (hk : 0 < k) : gI (n * k) (d * k) = gI n d * k := by
  unfold gI
  rw [Int.natAbs_mul, Int.natAbs_mul, Nat.gcd_mul_right, Int.natCast_mul, show (k.natAbs : Int) = k by omega]
theorem low_scale {n d k : Int} (hd : 0 < d) (hk : 0 < k) : lowP (n * k) (d * k) = lowP n d := by
  have g := gI_pos (n := n) (d := d) (by omega)
  rw [low_pos hd, low_pos (Int.mul_pos hd hk), gI_mul hk, Int.mul_ediv_mul_of_pos_left _ _ hk, Int.mul_ediv_mul_of_pos_left _ _ hk]
theorem low_parts {x M : Int} (hM : 0 < M) : ∃ g : Int, 0 < g ∧ x = (lowP x M).1 * g ∧ M = (lowP x M).2 * g ∧ 0 < (lowP x M).2 := by
  have g := gI_pos (n := x) (d := M) (by omega)
  have h1 : gI x M ∣ x := by
    unfold gI
    exact Int.ofNat_dvd_left.mpr (Nat.gcd_dvd_left _ _)
  have h2 : gI x M ∣ M := by
    unfold gI
    exact Int.ofNat_dvd_left.mpr (Nat.gcd_dvd_right _ _)
  rw [low_pos hM]
  refine ⟨gI x M, g, (Int.ediv_mul_cancel h1).symm, (Int.ediv_mul_cancel h2).symm, ?_⟩
  have e := Int.ediv_mul_cancel h2
  show 0 < M / gI x M
  by_cases q : 0 < M / gI x M
  · exact q
  · exfalso
    have := Int.mul_nonpos_of_nonpos_of_nonneg (show M / gI x M ≤ 0 by omega) (show 0 ≤ gI x M by omega)
    omega
theorem low_up {x M : Int} {m n : Nat} (hM : 0 < M) (hx : x.natAbs < 2 ^ m) (hm : M.natAbs < 2 ^ n) : (lowP x M).1.natAbs < 2 ^ m ∧ (lowP x M).2.natAbs < 2 ^ n := by
  obtain ⟨g, hg, e1, e2, hp⟩ := low_parts (x := x) hM
  have a1 : x.natAbs = (lowP x M).1.natAbs * g.natAbs := by rw [← Int.natAbs_mul, ← e1]
  have a2 : M.natAbs = (lowP x M).2.natAbs * g.natAbs := by rw [← Int.natAbs_mul, ← e2]
  have hg' : 1 ≤ g.natAbs := by omega
  refine ⟨Nat.lt_of_le_of_lt ?_ hx, Nat.lt_of_le_of_lt ?_ hm⟩
  · rw [a1]; exact Nat.le_mul_of_pos_right _ hg'
  · rw [a2]; exact Nat.le_mul_of_pos_right _ hg'
/-- times a whole number, over a whole number -/
theorem low_mulw {x M w : Int} (hM : 0 < M) : lowP (w * (lowP x M).1) (1 * (lowP x M).2) = lowP (w * x) M := by
  obtain ⟨g, hg, e1, e2, hp⟩ := low_parts (x := x) hM
  rw [Int.one_mul, ← low_scale hp hg, Int.mul_assoc, ← e1, ← e2]
theorem low_mulf {x M f : Int} (hM : 0 < M) (hf : 0 < f) : lowP ((lowP x M).1 * 1) ((lowP x M).2 * f) = lowP x (M * f) := by
  obtain ⟨g, hg, e1, e2, hp⟩ := low_parts (x := x) hM
  rw [Int.mul_one, ← low_scale (Int.mul_pos hp hf) hg, ← e1, show (lowP x M).2 * f * g = (lowP x M).2 * g * f by rw [Int.mul_assoc, Int.mul_comm f g, ← Int.mul_assoc], ← e2]
theorem low_add {y z M : Int} (hM : 0 < M) : lowP ((lowP y M).1 * (lowP z M).2 + (lowP z M).1 * (lowP y M).2) ((lowP y M).2 * (lowP z M).2) = lowP (y + z) M := by
  obtain ⟨g1, h1, a1, a2, a3⟩ := low_parts (x := y) hM
  obtain ⟨g2, h2, b1, b2, b3⟩ := low_parts (x := z) hM
  rw [← low_scale (Int.mul_pos a3 b3) (Int.mul_pos h1 h2)]
  have e1 : ((lowP y M).1 * (lowP z M).2 + (lowP z M).1 * (lowP y M).2) * (g1 * g2) = (y + z) * M := by
    have p1 : (lowP y M).1 * (lowP z M).2 * (g1 * g2) = ((lowP y M).1 * g1) * ((lowP z M).2 * g2) := by
      simp only [Int.mul_assoc, Int.mul_left_comm, Int.mul_comm]
    have p2 : (lowP z M).1 * (lowP y M).2 * (g1 * g2) = ((lowP z M).1 * g2) * ((lowP y M).2 * g1) := by
      simp only [Int.mul_assoc, Int.mul_left_comm, Int.mul_comm]
    rw [Int.add_mul, p1, p2, ← a1, ← b2, ← b1, ← a2, Int.add_mul]
  have e2 : (lowP y M).2 * (lowP z M).2 * (g1 * g2) = M * M := by
    have p1 : (lowP y M).2 * (lowP z M).2 * (g1 * g2) = ((lowP y M).2 * g1) * ((lowP z M).2 * g2) := by
      simp only [Int.mul_assoc, Int.mul_left_comm, Int.mul_comm]
    rw [p1, ← a2, ← b2]
  rw [e1, e2, low_scale hM hM]
theorem low_red {a : Int} {d : Nat} (hd : 0 < d) (h : Nat.gcd a.natAbs d = 1) : lowP a (d : Int) = (a, (d : Int)) := by
  have e : gI a (d : Int) = 1 := by
    unfold gI
    rw [Int.natAbs_natCast, h]
    rfl
  rw [low_pos (by omega), e, Int.ediv_one, Int.ediv_one]
/-- which is less -/
theorem low_lt {x y M : Int} (hM : 0 < M) : (lowP x M).1 * (lowP y M).2 < (lowP y M).1 * (lowP x M).2 ↔ x < y := by
  obtain ⟨g1, h1, a1, a2, a3⟩ := low_parts (x := x) hM
  obtain ⟨g2, h2, b1, b2, b3⟩ := low_parts (x := y) hM
  have p1 : (lowP x M).1 * (lowP y M).2 * (g1 * g2) = x * M := by
    have : (lowP x M).1 * (lowP y M).2 * (g1 * g2) = ((lowP x M).1 * g1) * ((lowP y M).2 * g2) := by
      simp only [Int.mul_assoc, Int.mul_left_comm, Int.mul_comm]
    rw [this, ← a1, ← b2]
  have p2 : (lowP y M).1 * (lowP x M).2 * (g1 * g2) = y * M := by
    have : (lowP y M).1 * (lowP x M).2 * (g1 * g2) = ((lowP y M).1 * g2) * ((lowP x M).2 * g1) := by
      simp only [Int.mul_assoc, Int.mul_left_comm, Int.mul_comm]
    rw [this, ← b1, ← a2]
  have hg := Int.mul_pos h1 h2
  constructor
  · intro h
    have := Int.mul_lt_mul_of_pos_right h hg
    rw [p1, p2] at this
    exact Int.lt_of_mul_lt_mul_right this (by omega)
  · intro h
    have := Int.mul_lt_mul_of_pos_right h hM
    rw [← p1, ← p2] at this
    exact Int.lt_of_mul_lt_mul_right this (by omega)
theorem low_neg {x M : Int} (hM : 0 < M) : (lowP x M).1 < 0 ↔ x < 0 := by
  obtain ⟨g, hg, e1, e2, hp⟩ := low_parts (x := x) hM
  constructor
  · intro h
    have := Int.mul_neg_of_neg_of_pos h hg
    omega
  · intro h
    by_cases q : (lowP x M).1 < 0
    · exact q
    · have := Int.mul_nonneg (show 0 ≤ (lowP x M).1 by omega) (show 0 ≤ g by omega)
      omega
theorem low_zero {M : Int} (hM : 0 < M) : lowP 0 M = (0, 1) := by
  have e : gI 0 M = M := by
    unfold gI
    simp
    omega
  rw [low_pos hM, e, Int.zero_ediv, Int.ediv_self (by omega)]
/-- the whole number behind -/
theorem low_back {x M : Int} (hM : 0 < M) : (lowP x M).1 * (M / (lowP x M).2) = x := by
  obtain ⟨g, hg, e1, e2, hp⟩ := low_parts (x := x) hM
  have : M / (lowP x M).2 = g := by
    conv => lhs; lhs; rw [e2]
    exact Int.mul_ediv_cancel_left _ (by omega)
  rw [this, ← e1]
/-! ### Euclid by any names -/
theorem whl_gcd2 {c : MP.Env → Store → Res Bool} {f : MP.Env → Store → SR} {s : Store} (E : Nat → Nat → MP.Env) (hc : ∀ a b : Nat, c (E a b) s = .ok (decide (b ≠ 0)) s) (hf : ∀ a b : Nat, b ≠ 0 → f (E a b) s = .nx (E b (a % b)) s) :
    ∀ (m a b n : Nat), b < 2 ^ m → 2 * m + 1 ≤ n → whlLoop c f n (E a b) s = .nx (E (Nat.gcd a b) 0) s := by
  have step : ∀ a b n : Nat, whlLoop c f (n + 1) (E a b) s = if b = 0 then .nx (E a b) s else whlLoop c f n (E b (a % b)) s := fun a b n => by
    rw [whlLoop, hc, Res.sr_ok]
    by_cases q : b = 0
    · rw [if_pos q, if_neg (by simp [q])]
    · rw [if_neg q, if_pos (by simp [q]), hf a b q]
  intro m
  induction m with
  | zero =>
    intro a b n hb hn
    obtain rfl : b = 0 := by omega
    obtain ⟨n, rfl⟩ : ∃ k, n = k + 1 := ⟨n - 1, by omega⟩
    rw [step, if_pos rfl, Nat.gcd_zero_right]
  | succ m ih =>
    intro a b n hb hn
    obtain ⟨n, rfl⟩ : ∃ k, n = k + 1 + 1 := ⟨n - 2, by omega⟩
    rw [step]
    by_cases q : b = 0
    · subst q
      rw [if_pos rfl, Nat.gcd_zero_right]
    · rw [if_neg q, step]
      have hg : Nat.gcd a b = Nat.gcd b (a % b) := by rw [Nat.gcd_comm a b, Nat.gcd_rec b a, Nat.gcd_comm]
      by_cases q2 : a % b = 0
      · rw [if_pos q2, hg, q2, Nat.gcd_zero_right]
      · have hlt : a % b < b := Nat.mod_lt _ (by omega)
        rw [if_neg q2, ih (a % b) (b % (a % b)) n (mod_half (by omega) hlt hb) (by omega), hg, Nat.gcd_comm b (a % b), Nat.gcd_rec (a % b) b, Nat.gcd_comm]
theorem mod_nat {a b : Nat} : ((a : Int) % (b : Int)) = ((a % b : Nat) : Int) := by simp
/-! ### the defs -/
theorem t_cut : lt.T.fn "_law_wn_cut" = some ⟨2, 4, b_law_wn_cut⟩ := by rfl
def cutC : IE := .cmp .gt (.var 3) (.int 0)
def cutB : ISs := .cons (.par 2 3 (.var 3) (.bin false .mod (.var 2) (.var 3))) .nil
theorem cut_eq : b_law_wn_cut = .cons (.par 2 3 (.blt false .abs (.cons (.var 0) .nil)) (.blt false .abs (.cons (.var 1) .nil))) (.cons (.whl cutC cutB) (.cons (.asg 2 (.ife (.cmp .gt (.var 1) (.int 0)) (.var 2) (.bin false .sub (.int 0) (.var 2)))) (.cons (.ret (.tup (.cons (.bin false .fdiv (.var 0) (.var 2)) (.cons (.bin false .fdiv (.var 1) (.var 2)) .nil)))) .nil))) := by rfl
theorem abs_V {C : Calls} {a : IE} {env : MP.Env} {s s1 : Store} {i : Int} (h : ev C a env s = .ok (.int i) s1) : ev C (.blt false .abs (.cons a .nil)) env s = .ok (ii i.natAbs) s1 := blt1_V h (by
  show some (PV.int (if i < 0 then -i else i)) = _
  rw [abs_n])
theorem whl_N {C : Calls} {c : IE} {b ss : ISs} {env env' : MP.Env} {s s1 : Store} {rs : SR} (h : ex C (.whl c b) env s = .nx env' s1) (h2 : exs C ss env' s1 = rs) : exs C (.cons (.whl c b) ss) env s = rs := by
  rw [exs, h, SR.andThen_nx, h2]
theorem s_cut (k : Nat) (s : Store) (n d : Int) (hd : 0 < d) (hb : d.natAbs < 2 ^ 499) : callF lt.T (k + 1) "_law_wn_cut" [.int n, .int d] s = .ok (Q (lowP n d)) s := by
  have hg := gI_pos (n := n) (d := d) (by omega)
  have hgl := gI_le (n := n) (d := d) (by omega)
  have gb := bits_int (i := gI n d) (m := 499) (by omega)
  have hw : ex (callsOf lt.T k) (.whl cutC cutB) [.int n, .int d, ii n.natAbs, ii d.natAbs] s = .nx [.int n, .int d, ii (Nat.gcd n.natAbs d.natAbs), ii 0] s := by
    rw [ex.eq_9, gfuel]
    refine whl_gcd2 (fun a b => [.int n, .int d, ii a, ii b]) (fun a b => ?_) (fun a b hb => ?_) 499 _ _ _ hb (by decide)
    · have e : decide ((0 : Int) < (b : Int)) = decide (b ≠ 0) := decide_eq_decide.mpr (by omega)
      have q : ev (callsOf lt.T k) cutC [.int n, .int d, ii a, ii b] s = .ok (.bl (decide ((0 : Int) < (b : Int)))) s := gt_V (v_int rfl) int_V
      rw [q, e]
      rfl
    · refine par_N (v_int rfl) (mod_V (v_int rfl) (v_int rfl) (by omega)) ?_
      rw [nil_N, mod_nat]
      rfl
  refine call_pure t_cut rfl (inb_Q _ _) ?_
  show exs (callsOf lt.T k) b_law_wn_cut [.int n, .int d, .und, .und] s = _
  rw [cut_eq]
  refine par_N (abs_V (v_int rfl)) (abs_V (v_int rfl)) (whl_N hw ?_)
  refine asg_N (MP.ife_T (gt_T (v_int rfl) int_V hd) (v_int rfl)) ?_
  rw [low_pos hd]
  exact ret_V (tup_V (es2 (fdiv_V (v_int rfl) (v_int rfl) ⟨hg, by show bits (gI n d) < 9000; omega⟩) (fdiv_V (v_int rfl) (v_int rfl) ⟨hg, by show bits (gI n d) < 9000; omega⟩)) (show 2 ≤ 16777216 by decide))
theorem t_add : lt.T.fn "_law_wn_add" = some ⟨2, 2, b_law_wn_add⟩ := by rfl
structure Nb (p : Int × Int) (m m2 : Nat) : Prop where
  n : p.1.natAbs < 2 ^ m
  d : p.2.natAbs < 2 ^ m2
  ps : 0 < p.2
theorem Q_nu (p : Int × Int) : Q p ≠ .und := by intro z; cases z
theorem q0_V {C : Calls} {a : IE} {env : MP.Env} {s s1 : Store} {p : Int × Int} (h : ev C a env s = .ok (Q p) s1) : ev C (.idx a (.int 0)) env s = .ok (.int p.1) s1 := idx_V h int_V rfl
theorem q1_V {C : Calls} {a : IE} {env : MP.Env} {s s1 : Store} {p : Int × Int} (h : ev C a env s = .ok (Q p) s1) : ev C (.idx a (.int 1)) env s = .ok (.int p.2) s1 := idx_V h int_V rfl
theorem vQ {C : Calls} {i : Nat} {env : MP.Env} {s : Store} {p : Int × Int} (h : env[i]? = some (Q p)) : ev C (.var i) env s = .ok (Q p) s := ev_v h (Q_nu p)
theorem dd_up {p q : Int × Int} {m : Nat} (hp : Nb p m 240) (hq : Nb q m 240) : (p.2 * q.2).natAbs < 2 ^ 499 ∧ 0 < p.2 * q.2 := by
  refine ⟨?_, Int.mul_pos hp.ps hq.ps⟩
  rw [Int.natAbs_mul]
  have := Nat.mul_lt_mul_of_lt_of_lt hp.d hq.d
  rw [← Nat.pow_add] at this
  exact Nat.lt_of_lt_of_le this (pow_mono (by decide))
theorem s_add (k : Nat) (s : Store) (p q : Int × Int) (hp : Nb p 3400 240) (hq : Nb q 3400 240) : callF lt.T (k + 2) "_law_wn_add" [Q p, Q q] s = .ok (Q (lowP (p.1 * q.2 + q.1 * p.2) (p.2 * q.2))) s := by
  have b1 := bits_int hp.n
  have b2 := bits_int hp.d
  have b3 := bits_int hq.n
  have b4 := bits_int hq.d
  have h := dd_up hp hq
  exact call_pure t_add rfl (inb_Q _ _) (ret_V (call2_V (add_V (mul_V (q0_V (vQ rfl)) (q1_V (vQ rfl)) (by omega)) (mul_V (q0_V (vQ rfl)) (q1_V (vQ rfl)) (by omega))) (mul_V (q1_V (vQ rfl)) (q1_V (vQ rfl)) (by omega)) (s_cut k s _ _ h.2 h.1)))
theorem t_mul : lt.T.fn "_law_wn_mul" = some ⟨2, 2, b_law_wn_mul⟩ := by rfl
theorem s_mul (k : Nat) (s : Store) (p q : Int × Int) (hp : Nb p 3400 240) (hq : Nb q 3400 240) : callF lt.T (k + 2) "_law_wn_mul" [Q p, Q q] s = .ok (Q (lowP (p.1 * q.1) (p.2 * q.2))) s := by
  have b1 := bits_int hp.n
  have b2 := bits_int hp.d
  have b3 := bits_int hq.n
  have b4 := bits_int hq.d
  have h := dd_up hp hq
  exact call_pure t_mul rfl (inb_Q _ _) (ret_V (call2_V (mul_V (q0_V (vQ rfl)) (q0_V (vQ rfl)) (by omega)) (mul_V (q1_V (vQ rfl)) (q1_V (vQ rfl)) (by omega)) (s_cut k s _ _ h.2 h.1)))
theorem t_below : lt.T.fn "_law_wn_below" = some ⟨2, 2, b_law_wn_below⟩ := by rfl
theorem s_below (k : Nat) (s : Store) (p q : Int × Int) (hp : Nb p 3400 240) (hq : Nb q 3400 240) : callF lt.T (k + 1) "_law_wn_below" [Q p, Q q] s = .ok (.bl (decide (p.1 * q.2 < q.1 * p.2))) s := by
  have b1 := bits_int hp.n
  have b2 := bits_int hp.d
  have b3 := bits_int hq.n
  have b4 := bits_int hq.d
  exact call_pure t_below rfl (inb_bl _ _) (ret_V (lt_V (mul_V (q0_V (vQ rfl)) (q1_V (vQ rfl)) (by omega)) (mul_V (q0_V (vQ rfl)) (q1_V (vQ rfl)) (by omega))))
end K55

/-! k55: the law's own values of the cells. -/
namespace K55
open PySem L2 TL SX MP
/-- a number over M, in lowest terms -/
def vq (M : Nat) (x : Int) : PV := Q (lowP x (M : Int))
theorem low_nb {x : Int} {M m n : Nat} (hM : 0 < M) (hx : x.natAbs < 2 ^ m) (hm : M < 2 ^ n) : Nb (lowP x (M : Int)) m n := by
  obtain ⟨a, b⟩ := low_up (x := x) (M := (M : Int)) (m := m) (n := n) (by omega) hx (by rw [Int.natAbs_natCast]; exact hm)
  obtain ⟨_, _, _, _, h⟩ := low_parts (x := x) (M := (M : Int)) (by omega)
  exact ⟨a, b, h⟩
theorem t_great : lt.T.fn "_law_wn_greatest" = some ⟨1, 3, b_law_wn_greatest⟩ := by rfl
def grB : ISs := .cons (.asg 1 (.ife (.call "_law_wn_below" (.cons (.var 1) (.cons (.var 2) .nil))) (.var 2) (.var 1))) .nil
theorem gr_loop (k : Nat) (s : Store) (v : PV) (M : Nat) (hM : 0 < M) (hm : M < 2 ^ 240) : ∀ (l : List Int) (x : Int) (y : PV), x.natAbs < 2 ^ 3400 → (∀ z ∈ l, z.natAbs < 2 ^ 3400) → ∃ y', forLoop (bodyF (callsOf lt.T (k + 1)) (.one 2) grB) [] (l.map (vq M)) [v, vq M x, y] s = .nx [v, vq M (l.foldl max x), y'] s
  | [], x, y, _, _ => ⟨y, for_nil rfl⟩
  | z :: l, x, y, hx, hl => by
    have hz := hl z List.mem_cons_self
    have hmx : (max x z).natAbs < 2 ^ 3400 := by
      rcases Int.le_total x z with q | q
      · rw [Int.max_eq_right q]; exact hz
      · rw [Int.max_eq_left q]; exact hx
    obtain ⟨y', e⟩ := gr_loop k s v M hM hm l (max x z) (vq M z) hmx (fun w hw => hl w (List.mem_cons_of_mem _ hw))
    refine ⟨y', (for_nx rfl ?_).trans e⟩
    show exs (callsOf lt.T (k + 1)) grB [v, vq M x, vq M z] s = .nx [v, vq M (max x z), vq M z] s
    have b := s_below k s (lowP x (M : Int)) (lowP z (M : Int)) (low_nb hM hx hm) (low_nb hM hz hm)
    have e2 : decide ((lowP x (M : Int)).1 * (lowP z (M : Int)).2 < (lowP z (M : Int)).1 * (lowP x (M : Int)).2) = decide (x < z) := decide_eq_decide.mpr (low_lt (by omega))
    rw [e2] at b
    refine asg_N ?_ nil_N
    by_cases q : x < z
    · rw [decide_eq_true q] at b
      rw [Int.max_eq_right (by omega)]
      exact MP.ife_T (call2_V (vQ rfl) (vQ rfl) b) (vQ rfl)
    · rw [decide_eq_false q] at b
      rw [Int.max_eq_left (by omega)]
      exact MP.ife_F (call2_V (vQ rfl) (vQ rfl) b) (vQ rfl)
theorem inb_vq (k M : Nat) (x : Int) : PV.inb k (vq M x) = true := inb_Q _ _
theorem s_great (k : Nat) (s : Store) (M : Nat) (hM : 0 < M) (hm : M < 2 ^ 240) (l : List Int) (x : Int) (hx : x.natAbs < 2 ^ 3400) (hl : ∀ z ∈ l, z.natAbs < 2 ^ 3400) : callF lt.T (k + 2) "_law_wn_greatest" [.lst ((x :: l).map (vq M))] s = .ok (vq M (l.foldl max x)) s := by
  obtain ⟨y', e⟩ := gr_loop k s (.lst ((x :: l).map (vq M))) M hM hm l x .und hx hl
  refine call_pure t_great rfl (inb_vq _ _ _) ?_
  show exs (callsOf lt.T (k + 1)) b_law_wn_greatest [.lst ((x :: l).map (vq M)), .und, .und] s = _
  refine asg_N (v := vq M x) (idx_V (v_lst rfl) (int_V (k := ((0 : Nat) : Int))) (idx_Ln rfl)) ?_
  exact for_N (it_L (sliL_V (v_lst rfl) (o_so (int_V (k := ((1 : Nat) : Int)))) o_no (cut_from 1))) e (ret_V (vQ rfl))
theorem abs_N {C : Calls} {a : IE} {env : MP.Env} {s s1 : Store} {n : Nat} (h : ev C a env s = .ok (ii n) s1) : ev C (.blt false .abs (.cons a .nil)) env s = .ok (ii n) s1 := by
  have e := abs_V h
  rw [Int.natAbs_natCast] at e
  exact e
theorem t_common : lt.T.fn "_law_wh_common" = some ⟨2, 2, b_law_wh_common⟩ := by rfl
def comC : IE := .cmp .gt (.var 1) (.int 0)
theorem com_eq : b_law_wh_common = .cons (.par 0 1 (.blt false .abs (.cons (.var 0) .nil)) (.blt false .abs (.cons (.var 1) .nil))) (.cons (.whl comC cBody) (.cons (.ret (.var 0)) .nil)) := by rfl
theorem s_common (k : Nat) (s : Store) (a b : Nat) (hb : b < 2 ^ 499) : callF lt.T (k + 1) "_law_wh_common" [ii a, ii b] s = .ok (ii (Nat.gcd a b)) s := by
  have hw : ex (callsOf lt.T k) (.whl comC cBody) [ii a, ii b] s = .nx [ii (Nat.gcd a b), ii 0] s := by
    rw [ex.eq_9, gfuel]
    refine whl_gcd2 (fun a b => [ii a, ii b]) (fun a b => ?_) (fun a b hb => c_body k s a b hb) 499 _ _ _ hb (by decide)
    have e : decide ((0 : Int) < (b : Int)) = decide (b ≠ 0) := decide_eq_decide.mpr (by omega)
    have q : ev (callsOf lt.T k) comC [ii a, ii b] s = .ok (.bl (decide ((0 : Int) < (b : Int)))) s := gt_V (v_int rfl) int_V
    rw [q, e]
    rfl
  refine call_pure t_common rfl (inb_ii _ _) ?_
  show exs (callsOf lt.T k) b_law_wh_common [ii a, ii b] s = _
  rw [com_eq]
  have e1 : ev (callsOf lt.T k) (.blt false .abs (.cons (.var 0) .nil)) [ii a, ii b] s = .ok (ii a) s := abs_N (v_int rfl)
  have e2 : ev (callsOf lt.T k) (.blt false .abs (.cons (.var 1) .nil)) [ii a, ii b] s = .ok (ii b) s := abs_N (v_int rfl)
  exact par_N e1 e2 (whl_N hw (ret_V (v_int rfl)))
theorem t_lover : lt.T.fn "_law_wh_over" = some ⟨1, 3, b_law_wh_over⟩ := by rfl
def ovB : ISs := .cons (.asg 1 (.bin false .fdiv (.bin false .mul (.var 1) (.idx (.var 2) (.int 1))) (.call "_law_wh_common" (.cons (.var 1) (.cons (.idx (.var 2) (.int 1)) .nil))))) .nil
theorem ov_loop (k : Nat) (s : Store) (v : PV) : ∀ (p : Pt) (d m : Nat) (x : PV), Dn (p.map (·.2)) → 0 < d ∧ d < 2 ^ m → m + 30 * p.length ≤ 300 → ∃ y, forLoop (bodyF (callsOf lt.T (k + 1)) (.one 2) ovB) [] (p.map tV) [v, ii d, x] s = .nx [v, ii (lcmL (p.map (·.2)) d), y] s
  | [], d, m, x, _, _, _ => ⟨x, for_nil rfl⟩
  | q :: p, d, m, x, hn, hd, hm => by
    rw [List.length_cons] at hm
    have h1 := hn q.2 List.mem_cons_self
    obtain ⟨y, e⟩ := ov_loop k s v p (Nat.lcm d q.2) (m + 30) (tV q) (fun x hx => hn x (List.mem_cons_of_mem _ hx)) (lcm_up hd h1) (by omega)
    refine ⟨y, (for_nx rfl ?_).trans e⟩
    show exs (callsOf lt.T (k + 1)) ovB [v, ii d, tV q] s = .nx [v, ii (Nat.lcm d q.2), tV q] s
    have g := gcd_up (n := q.2) hd
    have b1 := bits_nat g.2
    have b2 := bits_nat hd.2
    have b3 := bits_nat h1.2
    have c := s_common k s d q.2 (Nat.lt_of_lt_of_le h1.2 (pow_mono (by decide)))
    refine asg_N ?_ nil_N
    show _ = Res.ok (PV.int ((Nat.lcm d q.2 : Nat) : Int)) s
    unfold Nat.lcm
    rw [Int.natCast_ediv, Int.natCast_mul]
    exact fdiv_V (mul_V (v_int rfl) (idx_V (v_tup rfl) int_V rfl) (by omega)) (call2_V (v_int rfl) (idx_V (v_tup rfl) int_V rfl) c) ⟨by omega, by omega⟩
theorem s_lover (k : Nat) (s : Store) (p : Pt) (h : OkP p) : callF lt.T (k + 2) "_law_wh_over" [ptV p] s = .ok (ii (divP p)) s := by
  obtain ⟨y, e⟩ := ov_loop k s (ptV p) p 1 1 .und h.dn ⟨by decide, by decide⟩ (by have := h.len; omega)
  refine call_pure t_lover rfl (inb_ii _ _) ?_
  show exs (callsOf lt.T (k + 1)) b_law_wh_over [ptV p, .und, .und] s = _
  exact asg_N int_V (for_N (it_T (v_tup rfl)) e (ret_V (v_int rfl)))
/-! ### rows -/
theorem t_lread : lt.T.fn "_law_wh_read" = some ⟨1, 2, b_law_wh_read⟩ := by rfl
theorem s_lread (k : Nat) (s : Store) (r : Row) (h : (readR r).length < 64) : callF lt.T (k + 1) "_law_wh_read" [rowV r] s = .ok (.lst ((readR r).map ii)) s := by
  refine call_pure t_lread rfl (inb_lii _ _) ?_
  show exs (callsOf lt.T k) b_law_wh_read [rowV r, .und] s = _
  cases r with
  | sum ts b f =>
    refine ret_V (MP.ife_T (eqs_T (idx_V (v_tup rfl) int_V rfl) str_V rfl) ?_)
    have hl : ts.length < 64 := by simpa [readR] using h
    refine (ev_compX (h := tV) (g := fun t => ii t.2) (live := []) (bx := false) ts (it_T (idx_V (v_tup rfl) int_V rfl)) rfl (by omega) (fun t _ => ⟨[rowV (.sum ts b f), tV t], rfl, idx_V (v_tup rfl) int_V rfl⟩)).trans ?_
    show Res.ok (PV.lst (ts.map fun t => ii t.2)) s = Res.ok (PV.lst ((ts.map (·.2)).map ii)) s
    rw [List.map_map]
    rfl
  | rest c => exact ret_V (MP.ife_F (eqs_F (idx_V (v_tup rfl) int_V rfl) str_V (by decide)) (MP.ife_T (eqs_T (idx_V (v_tup rfl) int_V rfl) str_V rfl) (lst_V (es1 (idx_V (v_tup rfl) int_V rfl)) (show 1 ≤ 16777216 by decide))))
  | gr cs => exact ret_V (MP.ife_F (eqs_F (idx_V (v_tup rfl) int_V rfl) str_V (by decide)) (MP.ife_F (eqs_F (idx_V (v_tup rfl) int_V rfl) str_V (by decide)) (blt1_V (idx_V (v_tup rfl) int_V rfl) rfl)))
def lfB : ISs := .cons (.asg 3 (.idx (.var 1) (.idx (.call "_law_wh_read" (.cons (.var 2) .nil)) (.int 0))))
    (.cons (.expr (.meth .append (.var 1) (.cons (.ife (.cmp .eq (.idx (.var 2) (.int 0)) (.str "sum")) (.bin false .mul (.var 3) (.idx (.var 2) (.int 3))) (.var 3)) .nil)))
    .nil)
theorem lf_loop (k : Nat) (s : Store) (cv : PV) : ∀ (rs : List Row) (fs : List Nat) (m : Nat) (x2 x3 : PV), OkRs fs rs → Up m fs → fs.length + rs.length < 1000 → m + 5 * rs.length ≤ 1000 →
    ∃ y2 y3, forLoop (bodyF (callsOf lt.T (k + 1)) (.one 2) lfB) [] (rs.map rowV) [cv, .obj s.length, x2, x3] (s ++ [.lst (fs.map ii)]) = .nx [cv, .obj s.length, y2, y3] (s ++ [.lst ((facs fs rs).map ii)])
  | [], fs, m, x2, x3, _, _, _, _ => ⟨x2, x3, for_nil rfl⟩
  | r :: rs, fs, m, x2, x3, ho, hu, hz, hm => by
    rw [List.length_cons] at hz hm
    have h := ho.1
    have hs : (s ++ [SO.lst (fs.map ii)])[s.length]? = some (.lst (fs.map ii)) := at_new
    have hh : headR r < fs.length := h.lt _ (List.mem_of_getElem? (head_at h.ne))
    have gm : (fs.map ii)[headR r]? = some (ii (fs.getD (headR r) 0)) := by rw [List.getElem?_map, getD_at hh]; rfl
    have gb := (hu _ (List.mem_of_getElem? (getD_at hh))).2
    obtain ⟨y2, y3, e⟩ := lf_loop k s cv rs (fs ++ [nextF fs r]) (m + 5) (rowV r) (ii (fs.getD (headR r) 0)) ho.2 (hu.next ho.1) (by rw [List.length_append, List.length_singleton]; omega) (by omega)
    refine ⟨y2, y3, (for_nx rfl ?_).trans e⟩
    show exs (callsOf lt.T (k + 1)) lfB [cv, .obj s.length, rowV r, x3] (s ++ [.lst (fs.map ii)]) = _
    have c0 : ((readR r).map ii)[0]? = some (ii (headR r)) := by rw [List.getElem?_map, head_at h.ne]; rfl
    refine asg_N (idx_V (v_obj rfl) (idx_V (call1_V (ev_v rfl (row_nu r)) (s_lread k _ r h.len)) (int_V (k := ((0 : Nat) : Int))) (idx_Ln c0)) (idx_O hs gm)) ?_
    have c9 : ev (callsOf lt.T (k + 1)) (.ife (.cmp .eq (.idx (.var 2) (.int 0)) (.str "sum")) (.bin false .mul (.var 3) (.idx (.var 2) (.int 3))) (.var 3)) [cv, .obj s.length, rowV r, ii (fs.getD (headR r) 0)] (s ++ [.lst (fs.map ii)]) = .ok (ii (nextF fs r)) (s ++ [.lst (fs.map ii)]) := by
      cases r with
      | sum ts b f =>
        refine MP.ife_T (eqs_T (idx_V (v_tup rfl) int_V rfl) str_V rfl) ?_
        show _ = Res.ok (PV.int ((fs.getD (headR (.sum ts b f)) 0 * f : Nat) : Int)) _
        rw [Int.natCast_mul]
        refine mul_V (v_int rfl) (idx_V (v_tup rfl) int_V rfl) ?_
        have b1 := bits_nat gb
        have b2 := bits_nat h.up.2.2.2.2
        omega
      | rest c =>
        refine MP.ife_F (eqs_F (idx_V (v_tup rfl) int_V rfl) str_V (by decide)) ?_
        have e : nextF fs (.rest c) = fs.getD (headR (.rest c)) 0 := Nat.mul_one _
        rw [e]
        exact v_int rfl
      | gr cs =>
        refine MP.ife_F (eqs_F (idx_V (v_tup rfl) int_V rfl) str_V (by decide)) ?_
        have e : nextF fs (.gr cs) = fs.getD (headR (.gr cs)) 0 := Nat.mul_one _
        rw [e]
        exact v_int rfl
    refine expr_N (append_V (v_obj rfl) hs c9 hs (by rw [List.length_map]; omega)) ?_
    rw [nil_N, set_new, List.map_append]
    rfl
theorem t_lf : lt.T.fn "_law_wh_factors" = some ⟨1, 4, b_law_wh_factors⟩ := by rfl
theorem lf_eq : b_law_wh_factors = .cons (.asg 1 (.bin true .mul (.lst false (.cons (.int 1) .nil)) (.idx (.var 0) (.int 0)))) (.cons (.for (.one 2) (.val (.idx (.var 0) (.int 1))) lfB) (.cons (.ret (.var 1)) .nil)) := by rfl
theorem s_lf (k : Nat) (s : Store) (c : Code) (h : OkC c) : callF lt.T (k + 2) "_law_wh_factors" [codeV c] s = .ok (.lst ((facC c).map ii)) s := by
  obtain ⟨n1, n2, m9, hr, o1, o2, ho⟩ := h
  have e1 : ev (callsOf lt.T (k + 1)) (.bin true .mul (.lst false (.cons (.int 1) .nil)) (.idx (.var 0) (.int 0))) [codeV c, .und, .und, .und] s = .ok (.obj s.length) (s ++ [.lst ((List.replicate c.n 1).map ii)]) := by
    have q := mulLB_V (C := callsOf lt.T (k + 1)) (env := [codeV c, .und, .und, .und]) (s := s) (lst_V (es1 (int_V (k := 1))) (show 1 ≤ 16777216 by decide)) (idx_V (v_tup (i := 0) rfl) int_V (rfl : idxSem s _ (.int 0) = some (ii c.n))) (by show 1 * c.n ≤ _; omega) (by omega)
    rw [rep_one] at q
    rw [List.map_replicate]
    exact q
  obtain ⟨y2, y3, e2⟩ := lf_loop k s (codeV c) c.rows (List.replicate c.n 1) 1 .und .und hr (up_one _) (by rw [List.length_replicate]; omega) (by omega)
  refine call_lst (B := [.lst ((facC c).map ii)]) t_lf rfl (Nat.le_refl _) at_new (inbs_ii _ _) ?_
  show exs (callsOf lt.T (k + 1)) b_law_wh_factors [codeV c, .und, .und, .und] s = _
  rw [lf_eq]
  exact asg_N e1 (for_N (it_T (idx_V (v_tup rfl) int_V rfl)) e2 (ret_V (v_obj rfl)))
end K55

/-! k55: the law's own values. -/
namespace K55
open PySem L2 TL SX MP
def VL (D : Nat) (xs : List Int) (fs : List Nat) : List PV := (xs.zip fs).map fun p => vq (D * p.2) p.1
theorem vl_at {D : Nat} {xs : List Int} {fs : List Nat} {c : Nat} (h1 : c < xs.length) (h2 : c < fs.length) : (VL D xs fs)[c]? = some (vq (D * fs.getD c 0) (xAt xs c)) := by
  unfold VL xAt
  rw [List.getElem?_map, List.getElem?_zip_eq_some.mpr (show xs[c]? = some (xs.getD c 0, fs.getD c 0).1 ∧ fs[c]? = some (xs.getD c 0, fs.getD c 0).2 from ⟨by rw [List.getD_eq_getElem?_getD, List.getElem?_eq_getElem h1]; rfl, getD_at h2⟩)]
  rfl
theorem vl_app {D : Nat} {xs : List Int} {fs : List Nat} {x : Int} {f : Nat} (h : xs.length = fs.length) : VL D (xs ++ [x]) (fs ++ [f]) = VL D xs fs ++ [vq (D * f) x] := by
  unfold VL
  rw [List.zip_append h, List.map_append]
  rfl
theorem low_int {b : Int} {M : Nat} (hM : 0 < M) : lowP (b * (M : Int)) (M : Int) = (b, 1) := by
  have e := low_scale (n := b) (d := 1) (k := (M : Int)) (by omega) (by omega)
  rw [Int.one_mul] at e
  rw [e]
  have := low_red (a := b) (d := 1) (by omega) (Nat.gcd_one_right _)
  exact this
def inB : ISs := .cons (.asg 5 (.call "_law_wn_add" (.cons (.var 5) (.cons (.call "_law_wn_mul" (.cons (.tup (.cons (.var 6) (.cons (.int 1) .nil))) (.cons (.idx (.var 3) (.var 7)) .nil))) .nil)))) .nil
def sumX (xs : List Int) (ts : List (Int × Nat)) (y : Int) : Int := ts.foldl (fun y t => y + t.1 * xAt xs t.2) y
theorem sumX_eq (xs : List Int) : ∀ (ts : List (Int × Nat)) (y : Int), sumX xs ts y = (ts.map fun t => t.1 * xAt xs t.2).sum + y
  | [], y => by simp [sumX]
  | t :: ts, y => by
    have e := sumX_eq xs ts (y + t.1 * xAt xs t.2)
    unfold sumX at e ⊢
    rw [List.foldl_cons, e, List.map_cons, List.sum_cons]
    omega
theorem in_loopV (k : Nat) (s : Store) (n : Nat) (M : Nat) (hM : 0 < M ∧ M < 2 ^ 200) (xs : List Int) (hb : XB 3000 xs) (v0 v1 v2 v4 : PV) : ∀ (ts : List (Int × Nat)) (j : Nat) (y : Int) (x6 x7 : PV), (∀ t ∈ ts, idxSem s (.obj n) (ii t.2) = some (vq M (xAt xs t.2))) → (∀ t ∈ ts, t.1.natAbs < 2 ^ 134) → y.natAbs ≤ (j + 1) * 2 ^ 3134 → j + ts.length < 64 →
    ∃ y6 y7, forLoop (bodyF (callsOf lt.T (k + 2)) (.many [6, 7]) inB) [] (ts.map tV) [v0, v1, v2, .obj n, v4, vq M y, x6, x7] s = .nx [v0, v1, v2, .obj n, v4, vq M (sumX xs ts y), y6, y7] s
  | [], j, y, x6, x7, _, _, _, _ => ⟨x6, x7, for_nil rfl⟩
  | t :: ts, j, y, x6, x7, h, hw, hy, hj => by
    rw [List.length_cons] at hj
    have hx := xAt_up hb t.2
    have hwt := hw t List.mem_cons_self
    have hwx : (t.1 * xAt xs t.2).natAbs ≤ 2 ^ 3134 := by
      rw [Int.natAbs_mul]
      have := Nat.mul_le_mul (Nat.le_of_lt hwt) (Nat.le_of_lt hx)
      rw [← Nat.pow_add] at this
      exact this
    have hy2 : (y + t.1 * xAt xs t.2).natAbs ≤ (j + 1 + 1) * 2 ^ 3134 := by
      rw [Nat.succ_mul (j + 1)]
      have := Int.natAbs_add_le y (t.1 * xAt xs t.2)
      omega
    have big : ∀ z : Int, ∀ i : Nat, z.natAbs ≤ (i + 1) * 2 ^ 3134 → i < 64 → z.natAbs < 2 ^ 3400 := fun z i hz hi => by
      have e1 : (i + 1) * 2 ^ 3134 ≤ 2 ^ 6 * 2 ^ 3134 := Nat.mul_le_mul_right _ (by show i + 1 ≤ 64; omega)
      rw [← Nat.pow_add] at e1
      exact Nat.lt_of_le_of_lt (Nat.le_trans hz e1) (Nat.pow_lt_pow_right (by decide) (by decide))
    have hM2 : M < 2 ^ 240 := Nat.lt_of_lt_of_le hM.2 (pow_mono (by decide))
    obtain ⟨y6, y7, e⟩ := in_loopV k s n M hM xs hb v0 v1 v2 v4 ts (j + 1) (y + t.1 * xAt xs t.2) (.int t.1) (ii t.2) (fun u hu => h u (List.mem_cons_of_mem _ hu)) (fun u hu => hw u (List.mem_cons_of_mem _ hu)) hy2 (by omega)
    refine ⟨y6, y7, (for_nx rfl ?_).trans e⟩
    show exs (callsOf lt.T (k + 2)) inB [v0, v1, v2, .obj n, v4, vq M y, .int t.1, ii t.2] s = _
    have nbx := low_nb hM.1 (Nat.lt_of_lt_of_le hx (pow_mono (show 3000 ≤ 3400 by decide))) hM2
    have nbw : Nb (t.1, 1) 3400 240 := ⟨Nat.lt_of_lt_of_le hwt (pow_mono (by decide)), Nat.one_lt_two_pow (by decide), show (0 : Int) < 1 by decide⟩
    have c1 := s_mul k s (t.1, 1) (lowP (xAt xs t.2) (M : Int)) nbw nbx
    rw [low_mulw (by omega)] at c1
    have c2 := s_add k s (lowP y (M : Int)) (lowP (t.1 * xAt xs t.2) (M : Int)) (low_nb hM.1 (big y j hy (by omega)) hM2) (low_nb hM.1 (big _ 0 (by rw [Nat.one_mul]; exact hwx) (by decide)) hM2)
    rw [low_add (by omega)] at c2
    exact asg_N (call2_V (vQ rfl) (call2_V (x := Q (t.1, 1)) (tup_V (es2 (v_int rfl) int_V) (show 2 ≤ 16777216 by decide)) (idx_V (v_obj rfl) (v_int rfl) (h t List.mem_cons_self)) c1) c2) nil_N
def cS : IE := .cmp .eq (.idx (.var 2) (.int 0)) (.str "sum")
def cR : IE := .cmp .eq (.idx (.var 2) (.int 0)) (.str "rest")
def bS : ISs := .cons (.asg 5 (.tup (.cons (.idx (.var 2) (.int 2)) (.cons (.int 1) .nil))))
    (.cons (.for (.many [6, 7]) (.val (.idx (.var 2) (.int 1))) inB)
    (.cons (.expr (.meth .append (.var 3) (.cons (.call "_law_wn_mul" (.cons (.var 5) (.cons (.tup (.cons (.int 1) (.cons (.idx (.var 2) (.int 3)) .nil))) .nil))) .nil))) .nil))
def bR : ISs := .cons (.expr (.meth .append (.var 3) (.cons (.ife (.cmp .lt (.idx (.idx (.var 3) (.idx (.var 2) (.int 1))) (.int 0)) (.int 0)) (.tup (.cons (.int 0) (.cons (.int 1) .nil))) (.idx (.var 3) (.idx (.var 2) (.int 1)))) .nil))) .nil
def bG : ISs := .cons (.expr (.meth .append (.var 3) (.cons (.call "_law_wn_greatest" (.cons (.comp false (.idx (.var 3) (.var 7)) (.one 7) [7] (.val (.idx (.var 2) (.int 1))) .no) .nil)) .nil))) .nil
def vB : ISs := .cons (.ife cS bS (.cons (.ife cR bR bG) .nil)) .nil
theorem v_turn (k : Nat) (s : Store) (D : Nat) (hD : 0 < D ∧ D < 2 ^ 121) (fs : List Nat) (xs : List Int) (r : Row) (v0 v1 x2 v4 x5 x6 x7 : PV) (h : OkR fs r) (hu : Up 60 fs) (hl : xs.length = fs.length) (hz : fs.length < 1000) (hb : XB 3000 xs) :
    ∃ y5 y6 y7, bodyF (callsOf lt.T (k + 2)) (.one 2) vB (rowV r) [v0, v1, x2, .obj s.length, v4, x5, x6, x7] (s ++ [.lst (VL D xs fs)]) = .nx [v0, v1, rowV r, .obj s.length, v4, y5, y6, y7] (s ++ [.lst (VL D (xs ++ [valR xs ((D * fs.getD (headR r) 0 : Nat) : Int) r]) (fs ++ [nextF fs r]))]) := by
  have hh : headR r < fs.length := h.lt _ (List.mem_of_getElem? (head_at h.ne))
  have hs : (s ++ [SO.lst (VL D xs fs)])[s.length]? = some (.lst (VL D xs fs)) := at_new
  obtain ⟨f1, f2⟩ := hu _ (List.mem_of_getElem? (getD_at hh))
  generalize hM0 : D * fs.getD (headR r) 0 = M
  have hM : 0 < M ∧ M < 2 ^ 200 := by
    rw [← hM0]
    refine ⟨Nat.mul_pos hD.1 f1, ?_⟩
    have := Nat.mul_lt_mul_of_lt_of_lt hD.2 f2
    rw [← Nat.pow_add] at this
    exact Nat.lt_of_lt_of_le this (pow_mono (by decide))
  have hM2 : M < 2 ^ 240 := Nat.lt_of_lt_of_le hM.2 (pow_mono (by decide))
  have at_ : ∀ c ∈ readR r, idxSem (s ++ [.lst (VL D xs fs)]) (.obj s.length) (ii c) = some (vq M (xAt xs c)) := fun c hc => by
    have q := vl_at (D := D) (c := c) (by rw [hl]; exact h.lt c hc) (h.lt c hc)
    rw [h.eq c hc, hM0] at q
    exact idx_O hs q
  have hlen : (VL D xs fs).length < 16777216 := by
    unfold VL
    rw [List.length_map, List.length_zip]
    omega
  have fin : ∀ (v : PV) (y5 y6 y7 : PV) (e : IE) , ev (callsOf lt.T (k + 2)) e [v0, v1, rowV r, .obj s.length, v4, y5, y6, y7] (s ++ [.lst (VL D xs fs)]) = .ok v (s ++ [.lst (VL D xs fs)]) → v = vq (D * nextF fs r) (valR xs (M : Int) r) →
      exs (callsOf lt.T (k + 2)) (.cons (.expr (.meth .append (.var 3) (.cons e .nil))) .nil) [v0, v1, rowV r, .obj s.length, v4, y5, y6, y7] (s ++ [.lst (VL D xs fs)]) = .nx [v0, v1, rowV r, .obj s.length, v4, y5, y6, y7] (s ++ [.lst (VL D (xs ++ [valR xs (M : Int) r]) (fs ++ [nextF fs r]))]) := fun v y5 y6 y7 e he hv => by
    refine expr_N (append_V (v_obj rfl) hs he hs hlen) ?_
    rw [nil_N, set_new, vl_app hl, hv]
  cases r with
  | sum ts b f =>
    have hts : ts.length < 64 := by simpa [readR] using h.len
    have eN : D * nextF fs (.sum ts b f) = M * f := by
      show D * (fs.getD (headR (.sum ts b f)) 0 * f) = M * f
      rw [← Nat.mul_assoc, hM0]
    have hbM : (b * (M : Int)).natAbs ≤ (0 + 1) * 2 ^ 3134 := by
      rw [Int.natAbs_mul, Int.natAbs_natCast, Nat.zero_add, Nat.one_mul]
      have := Nat.mul_le_mul (Nat.le_of_lt h.up.2.2.1) (Nat.le_of_lt hM.2)
      rw [← Nat.pow_add] at this
      exact Nat.le_trans this (pow_mono (by decide))
    obtain ⟨y6, y7, el⟩ := in_loopV k (s ++ [.lst (VL D xs fs)]) s.length M hM xs hb v0 v1 (rowV (.sum ts b f)) v4 ts 0 (b * (M : Int)) x6 x7 (fun t ht => at_ t.2 (List.mem_map_of_mem ht)) h.up.2.1 hbM (by omega)
    refine ⟨vq M (sumX xs ts (b * (M : Int))), y6, y7, ?_⟩
    show exs (callsOf lt.T (k + 2)) vB [v0, v1, rowV (.sum ts b f), .obj s.length, v4, x5, x6, x7] (s ++ [.lst (VL D xs fs)]) = _
    refine ifs_T (eqs_T (idx_V (v_tup rfl) int_V rfl) str_V rfl) ?_ nil_N
    have e0 : ev (callsOf lt.T (k + 2)) (.tup (.cons (.idx (.var 2) (.int 2)) (.cons (.int 1) .nil))) [v0, v1, rowV (.sum ts b f), .obj s.length, v4, x5, x6, x7] (s ++ [.lst (VL D xs fs)]) = .ok (vq M (b * (M : Int))) (s ++ [.lst (VL D xs fs)]) := by
      unfold vq
      rw [low_int hM.1]
      exact tup_V (es2 (idx_V (v_tup rfl) int_V rfl) int_V) (show 2 ≤ 16777216 by decide)
    refine asg_N e0 (for_N (it_T (idx_V (v_tup rfl) int_V rfl)) el ?_)
    have hS : (sumX xs ts (b * (M : Int))).natAbs < 2 ^ 3400 := by
      rw [sumX_eq]
      have h1 : ∀ y ∈ ts.map fun t => t.1 * xAt xs t.2, y.natAbs ≤ 2 ^ 3134 := fun y hy => by
        obtain ⟨t, ht, rfl⟩ := List.mem_map.mp hy
        rw [Int.natAbs_mul]
        have := Nat.mul_le_mul (Nat.le_of_lt (h.up.2.1 t ht)) (Nat.le_of_lt (xAt_up hb t.2))
        rw [← Nat.pow_add] at this
        exact this
      have h2 := sum_up _ h1
      rw [List.length_map] at h2
      have h3 : ts.length * 2 ^ 3134 ≤ 63 * 2 ^ 3134 := Nat.mul_le_mul_right _ (by omega)
      have h4 := Int.natAbs_add_le ((ts.map fun t => t.1 * xAt xs t.2).sum) (b * (M : Int))
      have h5 : (2 : Nat) ^ 3140 = 64 * 2 ^ 3134 := by
        rw [show 3140 = 6 + 3134 from rfl, Nat.pow_add]
      have h6 : (2 : Nat) ^ 3140 < 2 ^ 3400 := Nat.pow_lt_pow_right (by decide) (by decide)
      omega
    have nbf : Nb (1, (f : Int)) 3400 240 := ⟨Nat.one_lt_two_pow (by decide), by rw [Int.natAbs_natCast]; exact Nat.lt_of_lt_of_le h.up.2.2.2.2 (pow_mono (by decide)), by have := h.up.2.2.2.1; show (0 : Int) < f; omega⟩
    have c1 := s_mul k (s ++ [.lst (VL D xs fs)]) (lowP (sumX xs ts (b * (M : Int))) (M : Int)) (1, (f : Int)) (low_nb hM.1 hS hM2) nbf
    rw [low_mulf (by omega) (by have := h.up.2.2.2.1; omega)] at c1
    refine fin _ _ _ _ _ (call2_V (vQ rfl) (tup_V (es2 int_V (idx_V (v_tup rfl) int_V rfl)) (show 2 ≤ 16777216 by decide)) c1) ?_
    unfold vq
    rw [eN, sumX_eq, Int.natCast_mul]
    rfl
  | rest c =>
    refine ⟨x5, x6, x7, ?_⟩
    have eN : D * nextF fs (.rest c) = M := by
      show D * (fs.getD (headR (.rest c)) 0 * 1) = M
      rw [Nat.mul_one, hM0]
    show exs (callsOf lt.T (k + 2)) vB [v0, v1, rowV (.rest c), .obj s.length, v4, x5, x6, x7] (s ++ [.lst (VL D xs fs)]) = _
    refine ifs_F (eqs_F (idx_V (v_tup rfl) int_V rfl) str_V (by decide)) ?_ nil_N
    refine ifs_T (eqs_T (idx_V (v_tup rfl) int_V rfl) str_V rfl) ?_ nil_N
    have ea : ev (callsOf lt.T (k + 2)) (.idx (.var 3) (.idx (.var 2) (.int 1))) [v0, v1, rowV (.rest c), .obj s.length, v4, x5, x6, x7] (s ++ [.lst (VL D xs fs)]) = .ok (Q (lowP (xAt xs c) (M : Int))) (s ++ [.lst (VL D xs fs)]) := idx_V (v_obj rfl) (idx_V (v_tup rfl) int_V rfl) (at_ c (List.mem_singleton.mpr rfl))
    have hn := low_neg (x := xAt xs c) (M := (M : Int)) (by omega)
    by_cases q : xAt xs c < 0
    · refine fin _ _ _ _ _ (MP.ife_T (lt_T (q0_V ea) int_V (hn.mpr q)) (tup_V (es2 int_V int_V) (show 2 ≤ 16777216 by decide))) ?_
      have e : valR xs (M : Int) (.rest c) = 0 := by
        show (if xAt xs c > 0 then xAt xs c else 0) = 0
        rw [if_neg (by omega)]
      rw [e, eN]
      unfold vq
      rw [low_zero (by omega)]
      rfl
    · have hge : 0 ≤ (lowP (xAt xs c) (M : Int)).1 := by
        by_cases q2 : (lowP (xAt xs c) (M : Int)).1 < 0
        · exact absurd (hn.mp q2) q
        · omega
      refine fin _ _ _ _ _ (MP.ife_F (lt_F (q0_V ea) int_V hge) ea) ?_
      have e : valR xs (M : Int) (.rest c) = xAt xs c := by
        show (if xAt xs c > 0 then xAt xs c else 0) = xAt xs c
        split <;> omega
      rw [e, eN]
      rfl
  | gr cs =>
    refine ⟨x5, x6, x7, ?_⟩
    have eN : D * nextF fs (.gr cs) = M := by
      show D * (fs.getD (headR (.gr cs)) 0 * 1) = M
      rw [Nat.mul_one, hM0]
    show exs (callsOf lt.T (k + 2)) vB [v0, v1, rowV (.gr cs), .obj s.length, v4, x5, x6, x7] (s ++ [.lst (VL D xs fs)]) = _
    refine ifs_F (eqs_F (idx_V (v_tup rfl) int_V rfl) str_V (by decide)) ?_ nil_N
    refine ifs_F (eqs_F (idx_V (v_tup rfl) int_V rfl) str_V (by decide)) ?_ nil_N
    have ec : ev (callsOf lt.T (k + 2)) (.comp false (.idx (.var 3) (.var 7)) (.one 7) [7] (.val (.idx (.var 2) (.int 1))) .no) [v0, v1, rowV (.gr cs), .obj s.length, v4, x5, x6, x7] (s ++ [.lst (VL D xs fs)]) = .ok (.lst ((cs.map (xAt xs)).map (vq M))) (s ++ [.lst (VL D xs fs)]) := by
      refine (ev_compX (h := ii) (g := fun c => vq M (xAt xs c)) (live := []) (bx := false) cs (it_T (idx_V (v_tup rfl) int_V rfl)) rfl (by have : cs.length < 64 := h.len; omega) (fun c hc => ⟨[v0, v1, rowV (.gr cs), .obj s.length, v4, x5, x6, ii c], rfl, idx_V (v_obj rfl) (v_int rfl) (at_ c hc)⟩)).trans ?_
      rw [List.map_map]
      rfl
    cases cs with
    | nil => exact absurd rfl h.ne
    | cons c cs =>
      have up : ∀ c, (xAt xs c).natAbs < 2 ^ 3400 := fun c => Nat.lt_of_lt_of_le (xAt_up hb c) (pow_mono (by decide))
      refine fin _ _ _ _ _ (call1_V ec (s_great k _ M hM.1 hM2 (cs.map (xAt xs)) (xAt xs c) (up c) (fun z hz => by
        obtain ⟨d, _, rfl⟩ := List.mem_map.mp hz
        exact up d))) ?_
      rw [eN]
      rfl
theorem v_loop (k : Nat) (s : Store) (D : Nat) (hD : 0 < D ∧ D < 2 ^ 121) (v0 v1 v4 : PV) : ∀ (rs : List Row) (fs : List Nat) (xs : List Int) (m u : Nat) (x2 x5 x6 x7 : PV), OkRs fs rs → Up u fs → u + 5 * rs.length ≤ 49 → XB m xs → 300 ≤ m → m + 150 * rs.length ≤ 3000 → xs.length = fs.length → fs.length + rs.length < 1000 →
    ∃ y2 y5 y6 y7, forLoop (bodyF (callsOf lt.T (k + 2)) (.one 2) vB) [] (rs.map rowV) [v0, v1, x2, .obj s.length, v4, x5, x6, x7] (s ++ [.lst (VL D xs fs)]) = .nx [v0, v1, y2, .obj s.length, v4, y5, y6, y7] (s ++ [.lst (VL D (cellsL D fs xs rs) (facs fs rs))])
  | [], fs, xs, m, u, x2, x5, x6, x7, _, _, _, _, _, _, _, _ => ⟨x2, x5, x6, x7, for_nil rfl⟩
  | r :: rs, fs, xs, m, u, x2, x5, x6, x7, ho, hu, hul, hb, hm, hml, hl, hz => by
    rw [List.length_cons] at hz hml hul
    obtain ⟨y5, y6, y7, tn⟩ := v_turn k s D hD fs xs r v0 v1 x2 v4 x5 x6 x7 ho.1 (fun x hx => ⟨(hu x hx).1, Nat.lt_of_lt_of_le (hu x hx).2 (pow_mono (by omega))⟩) hl (by omega) (fun x hx => Nat.lt_of_lt_of_le (hb x hx) (pow_mono (by omega)))
    obtain ⟨z2, z5, z6, z7, e⟩ := v_loop k s D hD v0 v1 v4 rs (fs ++ [nextF fs r]) (xs ++ [valR xs ((D * fs.getD (headR r) 0 : Nat) : Int) r]) (m + 150) (u + 5) (rowV r) y5 y6 y7 ho.2 (hu.next ho.1) (by omega) (hb.next ho.1 hm (sc_up ho.1 hD.2 hu (by omega))) (by omega) (by omega) (by rw [List.length_append, List.length_append, hl]; rfl) (by rw [List.length_append, List.length_singleton]; omega)
    exact ⟨z2, z5, z6, z7, (for_nx rfl tn).trans e⟩
end K55

/-! k55: values whole; things in a drawn order. -/
namespace K55
open PySem L2 TL SX MP
theorem start_eq {p : Pt} (hp : OkP p) : p.map tV = VL (divP p) (p.map (startX (divP p))) (List.replicate p.length 1) := by
  have key : ∀ (q : Pt), (∀ x ∈ q, x ∈ p) → q.map tV = VL (divP p) (q.map (startX (divP p))) (List.replicate q.length 1) := by
    intro q
    induction q with
    | nil => intro _; rfl
    | cons a q ih =>
      intro h
      have ha := h a List.mem_cons_self
      have e : tV a = vq (divP p * 1) (startX (divP p) a) := by
        have hd := (hp.dn _ (List.mem_map_of_mem ha)).1
        have hv : a.2 ∣ divP p := by
          have dv : ∀ (l : List Nat) (d : Nat), (∀ x, x ∣ d → x ∣ lcmL l d) ∧ ∀ x ∈ l, x ∣ lcmL l d := by
            intro l
            induction l with
            | nil => exact fun d => ⟨fun x h => h, fun x h => by cases h⟩
            | cons n l ih =>
              intro d
              obtain ⟨i1, i2⟩ := ih (Nat.lcm d n)
              refine ⟨fun x h => i1 x (Nat.dvd_trans h (Nat.dvd_lcm_left d n)), fun x h => ?_⟩
              rcases List.mem_cons.mp h with rfl | h
              · exact i1 x (Nat.dvd_lcm_right d x)
              · exact i2 x h
          exact (dv _ 1).2 a.2 (List.mem_map_of_mem ha)
        obtain ⟨j, hj⟩ := hv
        have hDp := (divP_up hp).1
        have hjp : 0 < j := by
          rcases Nat.eq_zero_or_pos j with z | z
          · rw [z, Nat.mul_zero] at hj; omega
          · exact z
        unfold vq startX
        rw [Nat.mul_one, hj, Nat.mul_div_cancel_left _ hd, Int.natCast_mul, low_scale (by omega) (by omega), low_red hd (hp.red a ha)]
        rfl
      rw [List.map_cons, ih (fun x hx => h x (List.mem_cons_of_mem _ hx)), e]
      rfl
  exact key p fun x h => h
theorem t_lv : lt.T.fn "_law_wh_values" = some ⟨2, 8, b_law_wh_values⟩ := by rfl
theorem lv_eq : b_law_wh_values = .cons (.asgt [3, 4] (.tup (.cons (.blt true .list1 (.cons (.var 1) .nil)) (.cons (.call "_law_wh_factors" (.cons (.var 0) .nil)) .nil)))) (.cons (.for (.one 2) (.val (.idx (.var 0) (.int 1))) vB) (.cons (.ret (.var 3)) .nil)) := by rfl
theorem inbs_VL (k D : Nat) (xs : List Int) (fs : List Nat) : PV.inbs k (VL D xs fs) = true := by
  rw [inbs_all]
  exact List.all_eq_true.mpr fun x hx => by
    obtain ⟨p, _, rfl⟩ := List.mem_map.mp hx
    exact inb_vq _ _ _
theorem s_lv (k : Nat) (s : Store) (c : Code) (p : Pt) (h : OkC c) (hp : OkP p) (hn : p.length = c.n) : callF lt.T (k + 3) "_law_wh_values" [codeV c, ptV p] s = .ok (.lst (VL (divP p) (cellsC c p) (facC c))) s := by
  have hD := divP_up hp
  have hm := h.m
  have n2 := h.n2
  obtain ⟨y2, y5, y6, y7, e3⟩ := v_loop k s (divP p) hD (codeV c) (ptV p) (.lst ((facC c).map ii)) c.rows (List.replicate c.n 1) (p.map (startX (divP p))) 300 1 .und .und .und .und h.rows (up_one _) (by omega) (startX_up hp) (by omega) (by omega) (by rw [List.length_map, List.length_replicate]; exact hn) (by rw [List.length_replicate]; omega)
  refine call_lst (B := [.lst (VL (divP p) (cellsC c p) (facC c))]) t_lv rfl (Nat.le_refl _) at_new (inbs_VL _ _ _ _) ?_
  show exs (callsOf lt.T (k + 2)) b_law_wh_values [codeV c, ptV p, .und, .und, .und, .und, .und, .und] s = _
  rw [lv_eq]
  have e0 : ev (callsOf lt.T (k + 2)) (.blt true .list1 (.cons (.var 1) .nil)) [codeV c, ptV p, .und, .und, .und, .und, .und, .und] s = .ok (.obj s.length) (s ++ [.lst (VL (divP p) (p.map (startX (divP p))) (List.replicate c.n 1))]) := by
    have := bltB_V (C := callsOf lt.T (k + 2)) (g := .list1) (es := .cons (.var 1) .nil) (env := [codeV c, ptV p, .und, .und, .und, .und, .und, .und]) (s := s) (s1 := s) (xs := [ptV p]) (ys := p.map tV) (es1 (v_tup rfl)) rfl
    rw [start_eq hp, hn] at this
    exact this
  exact asgt2_N (tup_V (es2 e0 (call1_V (v_tup rfl) (s_lf k _ c h))) (show 2 ≤ 16777216 by decide)) (for_N (it_T (idx_V (v_tup rfl) int_V rfl)) e3 (ret_V (v_obj rfl)))
/-! ### draws, with rows behind -/
/-- rows of the store that name nothing of it -/
def Flat (r : Store) : Prop := ∀ o ∈ r, ∀ n, SO.inb n o = true
theorem Flat.nil : Flat [] := fun _ h => by cases h
theorem Flat.app {r r2 : Store} (h : Flat r) (h2 : Flat r2) : Flat (r ++ r2) := fun o ho => by
  rcases List.mem_append.mp ho with q | q
  · exact h o q
  · exact h2 o q
theorem Flat.one {xs : List PV} {n : Nat} (h : ∀ x ∈ xs, plN n x = true) : Flat [.lst xs] := fun o ho k => by
  rw [List.mem_singleton.mp ho]
  exact pl_inbs h
theorem inb_ni (k : Nat) (l : List Nat) : PV.inbs k (ni l) = true := by
  rw [inbs_all]
  exact List.all_eq_true.mpr fun x hx => by
    obtain ⟨n, _, rfl⟩ := List.mem_map.mp hx
    exact inb_int _ _
theorem stO_inb {gs cs : List Nat} {l t : Int} {r : Store} {n : Nat} (hr : Flat r) (hn : 0 < n) : (stO gs cs l t r).all (SO.inb n) = true := by
  unfold stO
  rw [List.all_cons, List.all_cons]
  have h1 : SO.inb n (.lst (ni gs)) = true := inb_ni _ _
  have h2 : SO.inb n (.dct (kv cs l t)) = true := by
    show (kv cs l t).all (fun p => PV.inb n p.2) = true
    unfold kv
    have e1 : PV.inb n (.obj 0) = true := decide_eq_true hn
    have e2 : PV.inb n (.lst (ni cs)) = true := by rw [PV.inb]; exact inb_ni _ _
    simp [e1, e2, inb_int]
  rw [h1, h2]
  exact List.all_eq_true.mpr fun o ho => hr o ho n
theorem St.mono {cs : List Nat} {B B' : Nat} {r s : Store} (h : St cs B r s) (hb : B ≤ B') : St cs B' r s := h.le hb
theorem St.at {cs : List Nat} {B : Nat} {r s : Store} (h : St cs B r s) (j : Nat) : s[j + 2]? = r[j]? := by
  obtain ⟨gs, l, t, rfl, _⟩ := h
  rfl
theorem St.setj {cs : List Nat} {B : Nat} {r s : Store} (h : St cs B r s) (j : Nat) (y : SO) : St cs B (r.set j y) (s.set (j + 2) y) := by
  obtain ⟨gs, l, t, rfl, h⟩ := h
  exact ⟨gs, l, t, rfl, h⟩
theorem St.push {cs : List Nat} {B : Nat} {r s : Store} (h : St cs B r s) (y : Store) : St cs B (r ++ y) (s ++ y) := by
  obtain ⟨gs, l, t, rfl, h⟩ := h
  exact ⟨gs, l, t, rfl, h⟩
/-- handed back: what was put behind goes -/
theorem St.back {cs : List Nat} {B : Nat} {r r2 s s' : Store} {v v' : PV} (hl : s.length = r.length + 2) (h : St cs B (r ++ r2) s') (hr : Flat r) (fz : freeze s.length s' 3 v = some v') : ∃ s'', handBack s.length s v s' = .ok v' s'' ∧ St cs B r s'' := by
  obtain ⟨gs, l, t, rfl, h⟩ := h
  have e : (stO gs cs (l : Nat) (t : Nat) (r ++ r2)).take s.length = stO gs cs (l : Nat) (t : Nat) r := by
    rw [hl]
    show (SO.lst (ni gs) :: .dct (kv cs l t) :: (r ++ r2)).take (r.length + 2) = _
    rw [List.take_succ_cons, List.take_succ_cons, List.take_left]
    rfl
  unfold handBack
  rw [fz]
  dsimp only
  rw [e]
  split
  · rename_i q
    exact ⟨s, rfl, gs, l, t, (beqSt_eq _ _ q).symm, h⟩
  · rw [if_pos (stO_inb hr (by omega))]
    exact ⟨_, rfl, gs, l, t, rfl, h⟩
theorem freeze_lst {n m : Nat} {s : Store} {xs : List PV} (hm : n ≤ m) (hx : s[m]? = some (.lst xs)) (hv : PV.inbs n xs = true) : ∀ k, freeze n s (k + 1) (.obj m) = some (.lst xs) := by
  intro k
  have hi : PV.inb n (.obj m) = false := by
    show decide (m < n) = false
    rw [decide_eq_false (by omega)]
  have fx : ∀ ys : List PV, PV.inbs n ys = true → ys.mapM (freeze n s k) = some ys := by
    intro ys
    induction ys with
    | nil => intro _; rfl
    | cons y ys ih =>
      intro h
      rw [inbs_cons, Bool.and_eq_true] at h
      rw [List.mapM_cons, freeze_in h.1, ih h.2]
      rfl
  unfold freeze
  rw [hi, if_neg Bool.false_ne_true]
  dsimp only
  rw [hx]
  dsimp only
  rw [fx xs hv]
  rfl
theorem pop_V {C : Calls} {a b : IE} {env : MP.Env} {s s1 : Store} {n i : Nat} {xs ys : List PV} {y : PV} (ho : ev C a env s = .ok (.obj n) s) (hn : s[n]? = some (.lst xs)) (h : ev C b env s = .ok (ii i) s1) (hs : s1[n]? = some (.lst ys)) (hi : ys[i]? = some y) (hi2 : i < 2 ^ 62) : ev C (.meth .pop1 a (.cons b .nil)) env s = .ok y (s1.set n (.lst (ys.eraseIdx i))) := by
  rw [ev.eq_22, ho, Res.bind_ok]
  have hr : recv .pop1 s (.obj n) = true := by
    show (match s[n]? with | some (.lst _) => true | _ => false) = true
    rw [hn]
  rw [if_pos hr, es1 h, Res.bind_ok]
  have hl := (List.getElem?_eq_some_iff.mp hi).1
  show mthEnd (match s1[n]? with | some (.lst xs) => if -(2 ^ 63) ≤ (i : Int) ∧ (i : Int) < 2 ^ 63 then (ixN xs.length (i : Int)).bind fun k => xs[k]?.map fun y => (y, s1.set n (.lst (xs.eraseIdx k))) else none | _ => none) = _
  rw [hs]
  dsimp only
  have ix : ixN ys.length (i : Int) = some i := by
    unfold ixN
    rw [if_pos (by omega), if_pos (by omega)]
    simp
  rw [if_pos ⟨by omega, by omega⟩, ix, Option.bind_some, hi]
  rfl
end K55

/-! k55: _law_mixed. -/
namespace K55
open PySem L2 TL SX MP
def mxC : IE := .cmp .ne (.var 2) (.lst false .nil)
def mxB : ISs := .cons (.expr (.meth .append (.var 3) (.cons (.meth .pop1 (.var 2) (.cons (.call "_law_draw" (.cons (.var 0) (.cons (.blt false .len (.cons (.var 2) .nil)) .nil))) .nil)) .nil))) .nil
theorem ne_objnil {s : Store} {n m : Nat} {xs : List PV} (h : s[n]? = some (.lst xs)) (hp : ∀ x ∈ xs, plN m x = true) (hm : m < 60) : cmpSem .ne s (.obj n) (.lst []) = some (!xs.isEmpty) := by
  rw [cmp_nev]
  have e : eqv s (.obj n) (.lst []) = some xs.isEmpty := by
    show (match (match s[n]? with | some (.lst xs) => (dats s xs).map PyData.list | _ => none), some (PyData.list []) with
      | some d, some e => if SeqAt.shaped d && SeqAt.shaped e then some (PyData.eqv d e) else none
      | _, _ => none) = _
    rw [h]
    dsimp only
    rw [pl_dats hp]
    show (if SeqAt.shaped (.list (toDs xs)) && SeqAt.shaped (.list []) then some (PyData.eqv (.list (toDs xs)) (.list [])) else none) = _
    rw [shp_shaped (Shps.of fun x hx => pl_shp (hp x hx)).list (by omega)]
    cases xs with
    | nil => rfl
    | cons x xs => simp [toDs, PyData.eqv, PyData.eqvAll]; rfl
  rw [e]
  rfl
theorem erase_perm {α : Type} : ∀ (l : List α) (i : Nat) (h : i < l.length), (l[i] :: l.eraseIdx i).Perm l
  | [], i, h => by simp at h
  | x :: l, 0, h => .refl _
  | x :: l, i + 1, h => by
    have := erase_perm l i (by simpa using h)
    exact (List.Perm.swap _ _ _).trans (this.cons x)
theorem mix_loop (k : Nat) {cs : List Nat} {r : Store} (v : PV) : ∀ (m : Nat) (left found : List PV) (fuel B : Nat) (s : Store), left.length = m → St cs B (r ++ [.lst left, .lst found]) s → (∀ x ∈ left, plN 3 x = true) → m < fuel → m ≤ 1000 → found.length + m ≤ 1000 → B + m < 2 ^ 40 →
    ∃ ys s', whlLoop (fun env s => (ev (callsOf lt.T (k + 2)) mxC env s).bind fun x s => Res.of (truth s x) s) (exs (callsOf lt.T (k + 2)) mxB) fuel [.obj 1, v, .obj (r.length + 2), .obj (r.length + 3)] s = .nx [.obj 1, v, .obj (r.length + 2), .obj (r.length + 3)] s' ∧ St cs (B + m) (r ++ [.lst [], .lst (found ++ ys)]) s' ∧ ys.Perm left
  | m, left, found, 0, B, s, _, _, _, hf, _, _, _ => absurd hf (by omega)
  | m, left, found, fuel + 1, B, s, hlm, h, hp, hf, hz, hz2, hB => by
    have a0 : s[r.length + 2]? = some (.lst left) := by
      rw [h.at, List.getElem?_append_right (Nat.le_refl _), Nat.sub_self]
      rfl
    have hc : ev (callsOf lt.T (k + 2)) mxC [.obj 1, v, .obj (r.length + 2), .obj (r.length + 3)] s = .ok (.bl (!left.isEmpty)) s := cmp_V (v_obj rfl) (lst_V es0 (Nat.zero_le _)) (ne_objnil a0 hp (by decide))
    rw [whlLoop, hc]
    cases left with
    | nil =>
      obtain rfl : m = 0 := hlm.symm
      exact ⟨[], s, rfl, by rw [List.append_nil]; exact h, .refl _⟩
    | cons x l =>
      obtain ⟨j, rfl⟩ : ∃ j, m = j + 1 := ⟨l.length, hlm.symm⟩
      have hl : (x :: l).length = j + 1 := hlm
      obtain ⟨w, s1, hw, h1, ed⟩ := d_draw k h (x :: l).length (by rw [hl]; omega) (by rw [hl]; omega) (by omega)
      have b0 : s1[r.length + 2]? = some (.lst (x :: l)) := by
        rw [h1.at, List.getElem?_append_right (Nat.le_refl _), Nat.sub_self]
        rfl
      have hy := List.getElem?_eq_getElem hw
      have eL : ev (callsOf lt.T (k + 2)) (.blt false .len (.cons (.var 2) .nil)) [.obj 1, v, .obj (r.length + 2), .obj (r.length + 3)] s = .ok (.int ((x :: l).length : Nat)) s := lenS_V (v_obj rfl) (by intro q z; cases z) (by
        show (match s[r.length + 2]? with | some (.lst xs) => some xs | _ => none) = _
        rw [a0])
      have eP := pop_V (C := callsOf lt.T (k + 2)) (a := .var 2) (b := .call "_law_draw" (.cons (.var 0) (.cons (.blt false .len (.cons (.var 2) .nil)) .nil))) (env := [.obj 1, v, .obj (r.length + 2), .obj (r.length + 3)]) (v_obj rfl) a0 (call2_V (v_obj rfl) eL ed) b0 hy (by rw [hl] at hw; omega)
      have h2 := h1.setj r.length (.lst ((x :: l).eraseIdx w))
      have e3 : (r ++ [SO.lst (x :: l), .lst found]).set r.length (.lst ((x :: l).eraseIdx w)) = r ++ [.lst ((x :: l).eraseIdx w), .lst found] := set_new
      rw [e3] at h2
      have a1 : s[r.length + 3]? = some (.lst found) := by
        rw [h.at (r.length + 1), List.getElem?_append_right (by omega), Nat.add_sub_cancel_left]
        rfl
      have b1 : (s1.set (r.length + 2) (.lst ((x :: l).eraseIdx w)))[r.length + 3]? = some (.lst found) := by
        rw [h2.at (r.length + 1), List.getElem?_append_right (by omega), Nat.add_sub_cancel_left]
        rfl
      have eA := append_V (C := callsOf lt.T (k + 2)) (a := .var 3) (env := [.obj 1, v, .obj (r.length + 2), .obj (r.length + 3)]) (v_obj rfl) a1 eP b1 (by omega)
      have h3 := h2.setj (r.length + 1) (.lst (found ++ [(x :: l)[w]]))
      have e4 : (r ++ [SO.lst ((x :: l).eraseIdx w), .lst found]).set (r.length + 1) (.lst (found ++ [(x :: l)[w]])) = r ++ [.lst ((x :: l).eraseIdx w), .lst (found ++ [(x :: l)[w]])] := by
        rw [List.set_append_right _ _ (by omega), Nat.add_sub_cancel_left]
        rfl
      rw [e4] at h3
      have hle : ((x :: l).eraseIdx w).length = j := by
        rw [List.length_eraseIdx, if_pos hw, hl]
        rfl
      obtain ⟨ys, s', q1, q2, q3⟩ := mix_loop k v j ((x :: l).eraseIdx w) (found ++ [(x :: l)[w]]) fuel (B + 1) _ hle h3 (fun y hy => hp y (List.mem_of_mem_eraseIdx hy)) (by omega) (by omega) (by rw [List.length_append, List.length_singleton]; omega) (by omega)
      refine ⟨(x :: l)[w] :: ys, s', ?_, ?_, ?_⟩
      · show (Res.sr (.ok true s) _ fun t s => _) = _
        rw [Res.sr_ok, if_pos rfl]
        have eb : exs (callsOf lt.T (k + 2)) mxB [.obj 1, v, .obj (r.length + 2), .obj (r.length + 3)] s = .nx [.obj 1, v, .obj (r.length + 2), .obj (r.length + 3)] ((s1.set (r.length + 2) (.lst ((x :: l).eraseIdx w))).set (r.length + 3) (.lst (found ++ [(x :: l)[w]]))) := expr_N eA nil_N
        rw [eb]
        exact q1
      · rw [List.append_assoc] at q2
        rw [show B + (j + 1) = B + 1 + j by omega]
        exact q2
      · exact (q3.cons _).trans (erase_perm _ _ hw)
theorem t_mixed : lt.T.fn "_law_mixed" = some ⟨2, 4, b_law_mixed⟩ := by rfl
theorem mixed_eq : b_law_mixed = .cons (.par 2 3 (.blt true .list1 (.cons (.var 1) .nil)) (.lst true .nil)) (.cons (.whl mxC mxB) (.cons (.ret (.var 3)) .nil)) := by rfl
theorem s_mixed (k : Nat) {cs : List Nat} {B : Nat} {r s : Store} (h : St cs B r s) (hr : Flat r) (xs : List PV) (hp : ∀ x ∈ xs, plN 3 x = true) (hz : xs.length < 900) (hB : B + 1000 < 2 ^ 40) : ∃ ys s', callF lt.T (k + 3) "_law_mixed" [.obj 1, .lst xs] s = .ok (.lst ys) s' ∧ ys.Perm xs ∧ St cs (B + xs.length) r s' := by
  have h0 : St cs B (r ++ [.lst xs, .lst []]) (s ++ [.lst xs] ++ [.lst []]) := by
    rw [List.append_assoc]
    exact h.push _
  have hl := h.len
  obtain ⟨ys, s', q1, q2, q3⟩ := mix_loop k (.lst xs) xs.length xs [] 1000 B _ rfl h0 hp (by omega) (by omega) (by rw [List.length_nil]; omega) (by omega)
  rw [List.nil_append] at q2
  have hys : ∀ y ∈ ys, plN 3 y = true := fun y hy => hp y (q3.mem_iff.mp hy)
  have hrun : exs (callsOf lt.T (k + 2)) b_law_mixed [.obj 1, .lst xs, .und, .und] s = .rt (.obj (r.length + 3)) s' := by
    rw [mixed_eq]
    have e1 : ev (callsOf lt.T (k + 2)) (.blt true .list1 (.cons (.var 1) .nil)) [.obj 1, .lst xs, .und, .und] s = .ok (.obj s.length) (s ++ [.lst xs]) := bltB_V (es1 (v_lst rfl)) rfl
    refine par_N e1 nilB_V ?_
    rw [List.length_append, List.length_singleton, hl]
    refine whl_N (env' := [.obj 1, .lst xs, .obj (r.length + 2), .obj (r.length + 3)]) (s1 := s') ?_ (ret_V (v_obj rfl))
    rw [ex.eq_9, gfuel]
    exact q1
  have a1 : s'[r.length + 3]? = some (.lst ys) := by
    rw [q2.at (r.length + 1), List.getElem?_append_right (by omega), Nat.add_sub_cancel_left]
    rfl
  obtain ⟨s'', e1, e2⟩ := St.back (v := .obj (r.length + 3)) (v' := .lst ys) hl q2 hr (freeze_lst (by omega) a1 (pl_inbs hys) 2)
  exact ⟨ys, s'', by rw [call_rt (k := k + 2) t_mixed rfl hrun]; exact e1, q3, e2⟩
end K55

/-! k55: drawn code. -/
namespace K55
open PySem L2 TL SX MP
theorem pickI (k : Nat) {cs : List Nat} {B : Nat} {r s : Store} (h : St cs B r s) (hB : B + 1 < 2 ^ 40) (is : List Int) (hz : 0 < is.length) (hl : is.length ≤ 1000) : ∃ i s', i ∈ is ∧ St cs (B + 1) r s' ∧ callF lt.T (k + 3) "_law_pick" [.obj 1, .lst (is.map .int)] s = .ok (.int i) s' := by
  obtain ⟨w, s', h1, h2, h3⟩ := pick_V k h hB (is.map .int) (by rw [List.length_map]; exact hz) (by rw [List.length_map]; omega) (fun w hw => by
    obtain ⟨i, _, rfl⟩ := List.mem_map.mp hw
    exact inb_int _ _)
  obtain ⟨i, hi, rfl⟩ := List.mem_map.mp h1
  exact ⟨i, s', hi, h2, h3⟩
def l1 : IE := .lst false (.cons (.int 1) (.cons (.int 1) (.cons (.int 1) (.cons (.int 2) (.cons (.int 3) (.cons (.int 10) .nil))))))
def l2 : IE := .lst false (.cons (.int 0) (.cons (.int 1) (.cons (.int 1) (.cons (.neg (.int 1)) (.cons (.int 2) (.cons (.neg (.int 3)) (.cons (.int 7) (.cons (.bin false .pow (.int 10) (.int 12)) .nil))))))))
def l3 : IE := .lst false (.cons (.int 0) (.cons (.int 0) (.cons (.int 1) (.cons (.neg (.int 2)) (.cons (.int 5) .nil)))))
def is1 : List Int := [1, 1, 1, 2, 3, 10]
def is2 : List Int := [0, 1, 1, -1, 2, -3, 7, 1000000000000]
def is3 : List Int := [0, 0, 1, -2, 5]
theorem pow_V {C : Calls} {a b : IE} {env : MP.Env} {s s1 s2 : Store} {i : Int} {j : Nat} {z : Int} (ha : ev C a env s = .ok (.int i) s1) (hb : ev C b env s1 = .ok (ii j) s2) (h1 : j ≤ 1000000) (h2 : i.natAbs < 2 ^ 64) (hz : i ^ j = z) : ev C (.bin false .pow a b) env s = .ok (.int z) s2 :=
  bin_V ha hb (by
    show (if 0 ≤ (j : Int) ∧ (j : Int) ≤ 1000000 ∧ i.natAbs < 2 ^ 64 then some (PV.int (i ^ (j : Int).toNat)) else none) = _
    rw [if_pos ⟨by omega, by omega, h2⟩, Int.toNat_natCast, hz])
theorem l1_V {C : Calls} {env : MP.Env} {s : Store} : ev C l1 env s = .ok (.lst (is1.map .int)) s := lst_V (es_c int_V (es_c int_V (es_c int_V (es_c int_V (es_c int_V (es_c int_V es0)))))) (show 6 ≤ 16777216 by decide)
theorem l2_V {C : Calls} {env : MP.Env} {s : Store} : ev C l2 env s = .ok (.lst (is2.map .int)) s :=
  lst_V (es_c int_V (es_c int_V (es_c int_V (es_c (neg_V int_V) (es_c int_V (es_c (neg_V int_V) (es_c int_V (es_c (pow_V int_V (int_V (k := ((12 : Nat) : Int))) (by decide) (by decide) (by decide)) es0)))))))) (show 8 ≤ 16777216 by decide)
theorem l3_V {C : Calls} {env : MP.Env} {s : Store} : ev C l3 env s = .ok (.lst (is3.map .int)) s := lst_V (es_c int_V (es_c int_V (es_c int_V (es_c (neg_V int_V) (es_c int_V es0))))) (show 5 ≤ 16777216 by decide)
theorem is1_ok : ∀ i ∈ is1, ∃ f : Nat, i = (f : Int) ∧ 0 < f ∧ f < 2 ^ 5 := by
  intro i hi
  simp only [is1, List.mem_cons, List.not_mem_nil, or_false] at hi
  rcases hi with rfl | rfl | rfl | rfl | rfl | rfl
  · exact ⟨1, rfl, by decide, by decide⟩
  · exact ⟨1, rfl, by decide, by decide⟩
  · exact ⟨1, rfl, by decide, by decide⟩
  · exact ⟨2, rfl, by decide, by decide⟩
  · exact ⟨3, rfl, by decide, by decide⟩
  · exact ⟨10, rfl, by decide, by decide⟩
theorem is2_ok : ∀ i ∈ is2, i.natAbs < 2 ^ 134 := by decide
theorem is3_ok : ∀ i ∈ is3, i.natAbs < 2 ^ 134 := by decide
/-! ### terms -/
def teE : IE := .tup (.cons (.call "_law_pick" (.cons (.var 0) (.cons l2 .nil))) (.cons (.var 13) .nil))
theorem te_loop (k : Nat) {cs : List Nat} {R : Store} (env : MP.Env) (h0 : ∀ x, (env.set 13 x)[0]? = some (.obj 1)) (h13 : ∀ x, (env.set 13 x)[13]? = some x) : ∀ (T : List Nat) (acc : List PV) (B : Nat) (s : Store), St cs B R s → B + T.length < 2 ^ 40 → acc.length + T.length ≤ 1000 →
    ∃ (ts : List (Int × Nat)) (s' : Store), compLoop (compF (.one 13) [13] (fun _ s => .ok true s) (fun env s => ev (callsOf lt.T (k + 3)) teE env s) env) [] (T.map ii) acc s = .ok (acc ++ ts.map tV) s' ∧ ts.map (·.2) = T ∧ (∀ t ∈ ts, t.1.natAbs < 2 ^ 134) ∧ St cs (B + T.length) R s'
  | [], acc, B, s, h, _, _ => ⟨[], s, by
      rw [List.map_nil, List.map_nil, List.append_nil]
      unfold compLoop
      rw [if_pos (show liveOk _ [] = true from rfl)], rfl, (fun _ h => by cases h), h⟩
  | c :: T, acc, B, s, h, hB, hz => by
    rw [List.length_cons] at hB hz
    obtain ⟨i, s1, hi, h1, e1⟩ := pickI k h (by omega) is2 (by decide) (by decide)
    obtain ⟨ts, s', q1, q2, q3, q4⟩ := te_loop k env h0 h13 T (acc ++ [tV (i, c)]) (B + 1) s1 h1 (by omega) (by rw [List.length_append, List.length_singleton]; omega)
    refine ⟨(i, c) :: ts, s', ?_, by rw [List.map_cons, q2], fun t ht => ?_, by rw [List.length_cons, show B + (T.length + 1) = B + 1 + T.length by omega]; exact q4⟩
    · rw [List.map_cons]
      unfold compLoop
      rw [if_pos (show liveOk _ [] = true from rfl)]
      have ef : compF (.one 13) [13] (fun _ s => .ok true s) (fun env s => ev (callsOf lt.T (k + 3)) teE env s) env (ii c) s = .ok (some (tV (i, c))) s1 := by
        have ee : ev (callsOf lt.T (k + 3)) teE ((env.set 13 .und).set 13 (ii c)) s = .ok (tV (i, c)) s1 := by
          rw [List.set_set]
          exact tup_V (es2 (call2_V (v_obj (h0 _)) l2_V e1) (v_int (h13 _))) (show 2 ≤ 16777216 by decide)
        show (Res.ok true s).bind (fun t s => if t then (ev (callsOf lt.T (k + 3)) teE ((env.set 13 .und).set 13 (ii c)) s).bind fun y s => .ok (some y) s else .ok none s) = _
        rw [Res.bind_ok, if_pos rfl, ee]
        rfl
      rw [ef]
      dsimp only
      rw [if_pos (by rw [line_eq]; omega), q1, List.append_assoc]
      rfl
    · rcases List.mem_cons.mp ht with rfl | ht
      · exact is2_ok i hi
      · exact q3 t ht
/-- sorted places -/
def srt (S : List Nat) : List Nat := (sortI (S.map fun (n : Nat) => (n : Int))).map Int.toNat
theorem srt_ints (S : List Nat) : (sortI (S.map fun (n : Nat) => (n : Int))).map PV.int = (srt S).map ii := by
  unfold srt
  rw [List.map_map]
  refine List.map_congr_left fun x hx => ?_
  obtain ⟨n, _, rfl⟩ := List.mem_map.mp ((sortI_perm _).mem_iff.mp hx)
  show PV.int (n : Int) = PV.int (((n : Int).toNat : Nat) : Int)
  rw [Int.toNat_natCast]
theorem srt_perm (S : List Nat) : (srt S).Perm S := by
  have := (sortI_perm (S.map fun (n : Nat) => (n : Int))).map Int.toNat
  rw [List.map_map] at this
  have e : (S.map (Int.toNat ∘ fun (n : Nat) => (n : Int))) = S := by
    conv => rhs; rw [← List.map_id S]
    exact List.map_congr_left fun n _ => Int.toNat_natCast n
  rw [e] at this
  exact this
theorem srt_le (S : List Nat) : (srt S).Pairwise (· ≤ ·) := by
  unfold srt
  exact List.pairwise_map.mpr ((sortI_le _).imp fun {a b} h => by omega)
theorem srt_lt {S : List Nat} (h : S.Nodup) : (srt S).Pairwise (· < ·) := by
  have h1 := srt_le S
  have h2 : (srt S).Nodup := (srt_perm S).nodup_iff.mpr h
  exact List.Pairwise.imp₂ (fun a b h1 h2 => by omega) h1 h2
/-- the cells that may be read together -/
structure Sel (fs : List Nat) (b : Nat) (S : List Nat) : Prop where
  ne : S ≠ []
  nd : S.Nodup
  lt : ∀ c ∈ S, c < fs.length
  eq : ∀ c ∈ S, fs.getD c 0 = fs.getD b 0
  len : S.length < 64
theorem headD_mem {l : List Nat} (h : l ≠ []) : l.headD 0 ∈ l := by
  cases l with
  | nil => exact absurd rfl h
  | cons x l => exact List.mem_cons_self
theorem Sel.sum {fs : List Nat} {b : Nat} {S : List Nat} (h : Sel fs b S) {ts : List (Int × Nat)} {c : Int} {f : Nat} (e : ts.map (·.2) = srt S) (hw : ∀ t ∈ ts, t.1.natAbs < 2 ^ 134) (hc : c.natAbs < 2 ^ 134) (hf : 0 < f ∧ f < 2 ^ 5) : OkR fs (.sum ts c f) ∧ nextF fs (.sum ts c f) = fs.getD b 0 * f := by
  have p := srt_perm S
  have er : readR (.sum ts c f) = srt S := e
  have hne : srt S ≠ [] := fun z => h.ne (List.length_eq_zero_iff.mp (by rw [← p.length_eq, z]; rfl))
  have m : ∀ x ∈ srt S, x ∈ S := fun x hx => p.mem_iff.mp hx
  have hd : fs.getD (headR (.sum ts c f)) 0 = fs.getD b 0 := by
    unfold headR
    rw [er]
    exact h.eq _ (m _ (headD_mem hne))
  refine ⟨⟨by rw [er]; exact hne, fun x hx => h.lt x (m x (by rw [er] at hx; exact hx)), fun x hx => by rw [hd]; exact h.eq x (m x (by rw [er] at hx; exact hx)), by rw [er]; exact p.nodup_iff.mpr h.nd, by rw [er, p.length_eq]; exact h.len, ?_⟩, by unfold nextF; rw [hd]; rfl⟩
  show (ts.map (·.2)).Pairwise (· < ·) ∧ _
  rw [e]
  exact ⟨srt_lt h.nd, hw, hc, hf⟩
theorem Sel.gr {fs : List Nat} {b : Nat} {S : List Nat} (h : Sel fs b S) : OkR fs (.gr S) ∧ nextF fs (.gr S) = fs.getD b 0 := by
  have hd : fs.getD (headR (.gr S)) 0 = fs.getD b 0 := h.eq _ (headD_mem h.ne)
  refine ⟨⟨h.ne, h.lt, fun x hx => by rw [hd]; exact h.eq x hx, h.nd, h.len, trivial⟩, ?_⟩
  unfold nextF
  rw [hd]
  exact Nat.mul_one _
theorem Sel.rest {fs : List Nat} {b : Nat} (hb : b < fs.length) : OkR fs (.rest b) ∧ nextF fs (.rest b) = fs.getD b 0 := by
  refine ⟨⟨(by intro z; cases z), (fun x hx => by rw [List.mem_singleton.mp hx]; exact hb), (fun x hx => by rw [List.mem_singleton.mp hx]; rfl), List.pairwise_singleton _ _, (show 1 < 64 by decide), trivial⟩, ?_⟩
  exact Nat.mul_one _
theorem okrs_snoc : ∀ {rs : List Row} {fs : List Nat} {r : Row}, OkRs fs rs → OkR (facs fs rs) r → OkRs fs (rs ++ [r])
  | [], fs, r, _, h => ⟨h, trivial⟩
  | x :: rs, fs, r, ho, h => ⟨ho.1, okrs_snoc ho.2 h⟩
theorem facs_snoc : ∀ {rs : List Row} {fs : List Nat} {r : Row}, facs fs (rs ++ [r]) = facs fs rs ++ [nextF (facs fs rs) r]
  | [], fs, r => rfl
  | x :: rs, fs, r => facs_snoc (rs := rs)
end K55

/-! k55: drawn code, one row. -/
namespace K55
open PySem L2 TL SX MP
abbrev RC (r : Store) (rs : List Row) (fs : List Nat) : Store := r ++ [.lst (rs.map rowV), .lst (fs.map ii)]
theorem inb_tV (k : Nat) (t : Int × Nat) : PV.inb k (tV t) = true := by
  unfold tV
  rw [PV.inb, inbs_cons, inbs_cons, inb_int, inb_ii]
  rfl
theorem inb_row (k : Nat) (r : Row) : PV.inb k (rowV r) = true := by
  cases r with
  | sum ts b f =>
    unfold rowV
    have : PV.inbs k (ts.map tV) = true := by
      rw [inbs_all]
      exact List.all_eq_true.mpr fun x hx => by
        obtain ⟨t, _, rfl⟩ := List.mem_map.mp hx
        exact inb_tV _ _
    rw [PV.inb, inbs_cons, inbs_cons, inbs_cons, inbs_cons, inb_str, inb_int, inb_ii, PV.inb, this]
    rfl
  | rest c =>
    unfold rowV
    rw [PV.inb, inbs_cons, inbs_cons, inb_str, inb_ii]
    rfl
  | gr cs =>
    unfold rowV
    rw [PV.inb, inbs_cons, inbs_cons, inb_str, PV.inb, inbs_ii]
    rfl
theorem flatRC {r : Store} (hr : Flat r) (rs : List Row) (fs : List Nat) : Flat (RC r rs fs) := hr.app fun o ho k => by
  rcases List.mem_cons.mp ho with rfl | ho
  · show PV.inbs k (rs.map rowV) = true
    rw [inbs_all]
    exact List.all_eq_true.mpr fun x hx => by
      obtain ⟨t, _, rfl⟩ := List.mem_map.mp hx
      exact inb_row _ _
  · rw [List.mem_singleton.mp ho]
    exact inbs_ii _ _
section
variable {cs : List Nat} {B : Nat} {r s : Store} {rs : List Row} {fs : List Nat}
theorem rc0 (h : St cs B (RC r rs fs) s) : s[r.length + 2]? = some (.lst (rs.map rowV)) := by
  rw [h.at, List.getElem?_append_right (Nat.le_refl _), Nat.sub_self]
  rfl
theorem rc1 (h : St cs B (RC r rs fs) s) : s[r.length + 3]? = some (.lst (fs.map ii)) := by
  rw [h.at (r.length + 1), List.getElem?_append_right (by omega), Nat.add_sub_cancel_left]
  rfl
theorem rw0 (h : St cs B (RC r rs fs) s) (x : Row) : St cs B (RC r (rs ++ [x]) fs) (s.set (r.length + 2) (.lst (rs.map rowV ++ [rowV x]))) := by
  have q := h.setj r.length (.lst (rs.map rowV ++ [rowV x]))
  have e : (RC r rs fs).set r.length (.lst (rs.map rowV ++ [rowV x])) = RC r (rs ++ [x]) fs := by
    unfold RC
    rw [List.map_append]
    exact set_new
  rw [e] at q
  exact q
theorem rw1 (h : St cs B (RC r rs fs) s) (x : Nat) : St cs B (RC r rs (fs ++ [x])) (s.set (r.length + 3) (.lst (fs.map ii ++ [ii x]))) := by
  have q := h.setj (r.length + 1) (.lst (fs.map ii ++ [ii x]))
  have e : (RC r rs fs).set (r.length + 1) (.lst (fs.map ii ++ [ii x])) = RC r rs (fs ++ [x]) := by
    unfold RC
    rw [List.set_append_right _ _ (by omega), Nat.add_sub_cancel_left, List.map_append]
    rfl
  rw [e] at q
  exact q
end
def unii : PV → Nat
  | .int i => i.toNat
  | _ => 0
theorem perm_ii {ys : List PV} {L : List Nat} (p : ys.Perm (L.map ii)) : ∃ M : List Nat, ys = M.map ii ∧ M.Perm L := by
  refine ⟨ys.map unii, ?_, ?_⟩
  · rw [List.map_map]
    conv => lhs; rw [← List.map_id ys]
    refine List.map_congr_left fun y hy => ?_
    obtain ⟨n, _, rfl⟩ := List.mem_map.mp (p.mem_iff.mp hy)
    show ii n = ii ((n : Int).toNat)
    rw [Int.toNat_natCast]
  · have q := p.map unii
    rw [List.map_map] at q
    have e : L.map (unii ∘ ii) = L := by
      conv => rhs; rw [← List.map_id L]
      exact List.map_congr_left fun n _ => Int.toNat_natCast n
    rw [e] at q
    exact q
def liE : IE := .comp false (.var 13) (.one 13) [13] (.rng1 (.blt false .len (.cons (.var 6) .nil))) (.so (.cmp .eq (.idx (.var 6) (.var 13)) (.idx (.var 6) (.var 7))))
def smE : IE := .sli false (.call "_law_mixed" (.cons (.var 0) (.cons (.var 8) .nil))) .no (.so (.bin false .add (.int 1) (.call "_law_draw" (.cons (.var 0) (.cons (.int 3) .nil)))))
def drE (n : Int) : IE := .call "_law_draw" (.cons (.var 0) (.cons (.int n) .nil))
def bA : ISs := (.cons (.asg 11 (.call "_law_pick" (.cons (.var 0) (.cons l1 .nil))))
    (.cons (.asg 12 (.blt false .tuple1 (.cons (.comp false teE (.one 13) [13] (.val (.blt false .sorted1 (.cons (.var 10) .nil))) .no) .nil)))
    (.cons (.expr (.meth .append (.var 5) (.cons (.tup (.cons (.str "sum") (.cons (.var 12) (.cons (.call "_law_pick" (.cons (.var 0) (.cons l3 .nil))) (.cons (.var 11) .nil))))) .nil)))
    (.cons (.expr (.meth .append (.var 6) (.cons (.bin false .mul (.idx (.var 6) (.var 7)) (.var 11)) .nil)))
    .nil))))
def bE : ISs := (.cons (.expr (.meth .append (.var 5) (.cons (.ife (.cmp .eq (.var 9) (.int 3)) (.tup (.cons (.str "rest") (.cons (.var 7) .nil))) (.tup (.cons (.str "greatest") (.cons (.blt false .tuple1 (.cons (.var 10) .nil)) .nil)))) .nil)))
    (.cons (.expr (.meth .append (.var 6) (.cons (.idx (.var 6) (.var 7)) .nil)))
    .nil))
def coB : ISs := .cons (.asg 7 (.call "_law_draw" (.cons (.var 0) (.cons (.blt false .len (.cons (.var 6) .nil)) .nil))))
    (.cons (.asg 8 liE) (.cons (.par 9 10 (drE 5) smE) (.cons (.ife (.cmp .lt (.var 9) (.int 3)) bA bE) .nil)))
theorem lenO_V {C : Calls} {a : IE} {env : MP.Env} {s s1 : Store} {n : Nat} {xs : List PV} (h : ev C a env s = .ok (.obj n) s1) (e : s1[n]? = some (.lst xs)) : ev C (.blt false .len (.cons a .nil)) env s = .ok (.int (xs.length : Nat)) s1 := lenS_V h (by intro q z; cases z) (by
  show (match s1[n]? with | some (.lst xs) => some xs | _ => none) = _
  rw [e])
theorem d3 (k : Nat) {cs : List Nat} {B : Nat} {r s : Store} (h : St cs B r s) (n : Nat) (hn : 0 < n) (hn2 : n < 1000) (hB : B + 1 < 2 ^ 40) : ∃ v s', v < n ∧ St cs (B + 1) r s' ∧ callF lt.T (k + 3) "_law_draw" [.obj 1, ii n] s = .ok (ii v) s' := d_draw (k + 1) h n hn (by omega) hB
/-- where a row comes from: a base, cells like it -/
theorem co_sel (k : Nat) {cs : List Nat} {B : Nat} {r s : Store} {rs : List Row} {fs : List Nat} (h : St cs B (RC r rs fs) s) (hr : Flat r) (h0 : 0 < fs.length) (hz : fs.length < 50) (hB : B + 2000 < 2 ^ 40) (x1 x2 x3 x4 x7 x8 x9 x10 x11 x12 x13 : PV) :
    ∃ (b w : Nat) (S : List Nat) (y8 : PV) (s' : Store), b < fs.length ∧ Sel fs b S ∧ S.length ≤ 3 ∧ w < 5 ∧ St cs (B + 60) (RC r rs fs) s' ∧ ∀ rest,
      exs (callsOf lt.T (k + 3)) (.cons (.asg 7 (.call "_law_draw" (.cons (.var 0) (.cons (.blt false .len (.cons (.var 6) .nil)) .nil)))) (.cons (.asg 8 liE) (.cons (.par 9 10 (drE 5) smE) rest))) [.obj 1, x1, x2, x3, x4, .obj (r.length + 2), .obj (r.length + 3), x7, x8, x9, x10, x11, x12, x13] s =
      exs (callsOf lt.T (k + 3)) rest [.obj 1, x1, x2, x3, x4, .obj (r.length + 2), .obj (r.length + 3), ii b, y8, ii w, .lst (S.map ii), x11, x12, x13] s' := by
  obtain ⟨b, s1, hb, h1, e1⟩ := d3 k h fs.length h0 (by omega) (by omega)
  have c1 : ev (callsOf lt.T (k + 3)) (.call "_law_draw" (.cons (.var 0) (.cons (.blt false .len (.cons (.var 6) .nil)) .nil))) [.obj 1, x1, x2, x3, x4, .obj (r.length + 2), .obj (r.length + 3), x7, x8, x9, x10, x11, x12, x13] s = .ok (ii b) s1 := by
    have q := lenO_V (C := callsOf lt.T (k + 3)) (a := .var 6) (env := [.obj 1, x1, x2, x3, x4, .obj (r.length + 2), .obj (r.length + 3), x7, x8, x9, x10, x11, x12, x13]) (s := s) (v_obj rfl) (rc1 h)
    rw [List.length_map] at q
    exact call2_V (v_obj rfl) q e1
  have gm : ∀ c, c < fs.length → (fs.map ii)[c]? = some (ii (fs.getD c 0)) := fun c hc => by rw [List.getElem?_map, getD_at hc]; rfl
  have c2 : ev (callsOf lt.T (k + 3)) liE [.obj 1, x1, x2, x3, x4, .obj (r.length + 2), .obj (r.length + 3), ii b, x8, x9, x10, x11, x12, x13] s1 = .ok (.lst (((List.range fs.length).filter fun c => decide (((fs.getD c 0 : Nat) : Int) = ((fs.getD b 0 : Nat) : Int))).map ii)) s1 := by
    have q : ev (callsOf lt.T (k + 3)) (.blt false .len (.cons (.var 6) .nil)) [.obj 1, x1, x2, x3, x4, .obj (r.length + 2), .obj (r.length + 3), ii b, x8, x9, x10, x11, x12, x13] s1 = .ok (.int (((fs.map ii).length : Nat) : Int)) s1 := lenO_V (v_obj rfl) (rc1 h1)
    rw [List.length_map] at q
    exact ev_filt (h := fun (j : Nat) => .int (j : Int)) (g := ii) (p := fun c => decide (((fs.getD c 0 : Nat) : Int) = ((fs.getD b 0 : Nat) : Int))) (live := []) (List.range fs.length) (it_R q (by omega)) rfl (by rw [line_eq, List.length_range]; omega) (fun c hc => ⟨[.obj 1, x1, x2, x3, x4, .obj (r.length + 2), .obj (r.length + 3), ii b, x8, x9, x10, x11, x12, ii c], rfl, eqi_V (idx_V (v_obj rfl) (v_int rfl) (idx_O (rc1 h1) (gm c (List.mem_range.mp hc)))) (idx_V (v_obj rfl) (v_int rfl) (idx_O (rc1 h1) (gm b hb))), fun _ => v_int rfl⟩) false
  generalize hL : ((List.range fs.length).filter fun c => decide (((fs.getD c 0 : Nat) : Int) = ((fs.getD b 0 : Nat) : Int))) = L at c2
  have hLlen : L.length ≤ fs.length := by
    rw [← hL]
    exact Nat.le_trans (List.length_filter_le _ _) (by rw [List.length_range]; exact Nat.le_refl _)
  have hLm : ∀ c ∈ L, c < fs.length ∧ fs.getD c 0 = fs.getD b 0 := fun c hc => by
    rw [← hL] at hc
    obtain ⟨a1, a2⟩ := List.mem_filter.mp hc
    have := of_decide_eq_true a2
    exact ⟨List.mem_range.mp a1, by omega⟩
  have hLb : b ∈ L := by
    rw [← hL]
    exact List.mem_filter.mpr ⟨List.mem_range.mpr hb, decide_eq_true rfl⟩
  have hLn : L.Nodup := by
    rw [← hL]
    exact List.Pairwise.filter _ List.nodup_range
  obtain ⟨w, s2, hw, h2, e2⟩ := d3 k h1 5 (by decide) (by decide) (by omega)
  have hpl : ∀ x ∈ L.map ii, plN 3 x = true := fun x hx => by
    obtain ⟨c, hc, rfl⟩ := List.mem_map.mp hx
    exact pl_ii (by have := (hLm c hc).1; omega)
  obtain ⟨ys, s3, e3, p3, h3⟩ := s_mixed k h2 (flatRC hr rs fs) (L.map ii) hpl (by rw [List.length_map]; omega) (by omega)
  obtain ⟨M, rfl, pM⟩ := perm_ii p3
  rw [List.length_map] at h3
  obtain ⟨d, s4, hd, h4, e4⟩ := d3 k h3 3 (by decide) (by decide) (by omega)
  have hM := pM.length_eq
  have hMne : M ≠ [] := fun z => by
    rw [z] at pM
    exact absurd (pM.mem_iff.mpr hLb) (by simp)
  have sub : ∀ c ∈ M.take (1 + d), c ∈ L := fun c hc => pM.mem_iff.mp (List.mem_of_mem_take hc)
  refine ⟨b, w, M.take (1 + d), .lst (L.map ii), s4, hb, ⟨?_, ?_, fun c hc => (hLm c (sub c hc)).1, fun c hc => (hLm c (sub c hc)).2, ?_⟩, ?_, hw, h4.le (by omega), fun rest => ?_⟩
  · intro z
    cases M with
    | nil => exact hMne rfl
    | cons x M =>
      rw [Nat.add_comm, List.take_succ_cons] at z
      cases z
  · exact List.Pairwise.sublist (List.take_sublist _ _) (pM.nodup_iff.mpr hLn)
  · rw [List.length_take]; omega
  · rw [List.length_take]; omega
  · refine asg_N c1 (asg_N c2 (par_N (call2_V (v_obj rfl) int_V e2) (?_ : ev _ smE _ s2 = .ok (.lst ((M.take (1 + d)).map ii)) s4) rfl))
    have eb : ev (callsOf lt.T (k + 3)) (.bin false .add (.int 1) (.call "_law_draw" (.cons (.var 0) (.cons (.int 3) .nil)))) [.obj 1, x1, x2, x3, x4, .obj (r.length + 2), .obj (r.length + 3), ii b, .lst (L.map ii), x9, x10, x11, x12, x13] s3 = .ok (.int ((1 + d : Nat) : Int)) s4 := by
      rw [Int.natCast_add]
      exact add_V int_V (call2_V (v_obj rfl) int_V e4)
    exact sliL_V (call2_V (v_obj rfl) (v_lst rfl) e3) o_no (o_so eb) (by rw [cut_to, List.map_take])
/-- one row more -/
theorem co_turn (k : Nat) {cs : List Nat} {B : Nat} {r s : Store} {rs : List Row} {fs : List Nat} (h : St cs B (RC r rs fs) s) (hr : Flat r) (h0 : 0 < fs.length) (hz : fs.length < 50) (hz2 : rs.length < 50) (hu : Up 60 fs) (hB : B + 2000 < 2 ^ 40) (x1 x2 x3 x4 x7 x8 x9 x10 x11 x12 x13 x : PV) :
    ∃ (rw_ : Row) (y7 y8 y9 y10 y11 y12 : PV) (s' : Store), OkR fs rw_ ∧ St cs (B + 100) (RC r (rs ++ [rw_]) (fs ++ [nextF fs rw_])) s' ∧
      bodyF (callsOf lt.T (k + 3)) (.one 3) coB x [.obj 1, x1, x2, x3, x4, .obj (r.length + 2), .obj (r.length + 3), x7, x8, x9, x10, x11, x12, x13] s = .nx [.obj 1, x1, x2, x, x4, .obj (r.length + 2), .obj (r.length + 3), y7, y8, y9, y10, y11, y12, x13] s' := by
  obtain ⟨b, w, S, y8, s1, hb, hS, hS3, hw, h1, e1⟩ := co_sel k h hr h0 hz hB x1 x2 x x4 x7 x8 x9 x10 x11 x12 x13
  have gm : (fs.map ii)[b]? = some (ii (fs.getD b 0)) := by rw [List.getElem?_map, getD_at hb]; rfl
  have ub := (hu _ (List.mem_of_getElem? (getD_at hb))).2
  by_cases q : w < 3
  · obtain ⟨i, s2, hi, h2, e2⟩ := pickI k h1 (by omega) is1 (by decide) (by decide)
    obtain ⟨f, rfl, hf1, hf2⟩ := is1_ok i hi
    have c2 : ev (callsOf lt.T (k + 3)) (.call "_law_pick" (.cons (.var 0) (.cons l1 .nil))) [.obj 1, x1, x2, x, x4, .obj (r.length + 2), .obj (r.length + 3), ii b, y8, ii w, .lst (S.map ii), x11, x12, x13] s1 = .ok (ii f) s2 := call2_V (v_obj rfl) l1_V e2
    obtain ⟨ts, s3, q1, q2, q3, q4⟩ := te_loop k [.obj 1, x1, x2, x, x4, .obj (r.length + 2), .obj (r.length + 3), ii b, y8, ii w, .lst (S.map ii), ii f, x12, x13] (fun _ => rfl) (fun _ => rfl) (srt S) [] (B + 61) s2 h2 (by rw [(srt_perm S).length_eq]; omega) (by rw [List.length_nil, (srt_perm S).length_eq]; omega)
    rw [(srt_perm S).length_eq] at q4
    have hsort : ev (callsOf lt.T (k + 3)) (.blt false .sorted1 (.cons (.var 10) .nil)) [.obj 1, x1, x2, x, x4, .obj (r.length + 2), .obj (r.length + 3), ii b, y8, ii w, .lst (S.map ii), ii f, x12, x13] s2 = .ok (.lst ((srt S).map ii)) s2 := by
      have := sort_ints (sub := (callsOf lt.T (k + 3)).sub) (s := s2) (x := .lst (S.map ii)) (l := S.map fun (n : Nat) => (n : Int)) (by
        show some (S.map ii) = _
        rw [map_ii])
      rw [srt_ints] at this
      exact blt1_V (v_lst rfl) this
    have c3 : ev (callsOf lt.T (k + 3)) (.blt false .tuple1 (.cons (.comp false teE (.one 13) [13] (.val (.blt false .sorted1 (.cons (.var 10) .nil))) .no) .nil)) [.obj 1, x1, x2, x, x4, .obj (r.length + 2), .obj (r.length + 3), ii b, y8, ii w, .lst (S.map ii), ii f, x12, x13] s2 = .ok (.tup (ts.map tV)) s3 := by
      refine blt1_V (x := .lst (ts.map tV)) ?_ rfl
      rw [ev.eq_26, it_L hsort, Res.bind_ok]
      dsimp only
      rw [q1]
      rfl
    obtain ⟨c, s4, hc, h4, e4⟩ := pickI k q4 (by omega) is3 (by decide) (by decide)
    obtain ⟨okr, enx⟩ := hS.sum (c := c) (f := f) q2 q3 (is3_ok c hc) ⟨hf1, hf2⟩
    have c5 : ev (callsOf lt.T (k + 3)) (.tup (.cons (.str "sum") (.cons (.var 12) (.cons (.call "_law_pick" (.cons (.var 0) (.cons l3 .nil))) (.cons (.var 11) .nil))))) [.obj 1, x1, x2, x, x4, .obj (r.length + 2), .obj (r.length + 3), ii b, y8, ii w, .lst (S.map ii), ii f, .tup (ts.map tV), x13] s3 = .ok (rowV (.sum ts c f)) s4 := tup_V (es4 str_V (v_tup rfl) (call2_V (v_obj rfl) l3_V e4) (v_int rfl)) (show 4 ≤ 16777216 by decide)
    have h5 := rw0 h4 (.sum ts c f)
    have c6 : ev (callsOf lt.T (k + 3)) (.bin false .mul (.idx (.var 6) (.var 7)) (.var 11)) [.obj 1, x1, x2, x, x4, .obj (r.length + 2), .obj (r.length + 3), ii b, y8, ii w, .lst (S.map ii), ii f, .tup (ts.map tV), x13] (s4.set (r.length + 2) (.lst (rs.map rowV ++ [rowV (.sum ts c f)]))) = .ok (ii (nextF fs (.sum ts c f))) (s4.set (r.length + 2) (.lst (rs.map rowV ++ [rowV (.sum ts c f)]))) := by
      rw [enx]
      show _ = Res.ok (PV.int ((fs.getD b 0 * f : Nat) : Int)) _
      rw [Int.natCast_mul]
      have b1 := bits_nat ub
      have b2 := bits_nat hf2
      exact mul_V (idx_V (v_obj rfl) (v_int rfl) (idx_O (rc1 h5) gm)) (v_int rfl) (by omega)
    have h6 := rw1 h5 (nextF fs (.sum ts c f))
    refine ⟨.sum ts c f, ii b, y8, ii w, .lst (S.map ii), ii f, .tup (ts.map tV), _, okr, h6.le (by omega), ?_⟩
    refine (e1 _).trans ?_
    refine ifs_T (lt_T (v_int rfl) int_V (by omega)) ?_ nil_N
    exact asg_N c2 (asg_N c3 (expr_N (append_V (v_obj rfl) (rc0 q4) c5 (rc0 h4) (by rw [List.length_map]; omega)) (expr_N (append_V (v_obj rfl) (rc1 h5) c6 (rc1 h5) (by rw [List.length_map]; omega)) nil_N)))
  · have c6 : ∀ st rs', St cs (B + 60) (RC r rs' fs) st → ev (callsOf lt.T (k + 3)) (.idx (.var 6) (.var 7)) [.obj 1, x1, x2, x, x4, .obj (r.length + 2), .obj (r.length + 3), ii b, y8, ii w, .lst (S.map ii), x11, x12, x13] st = .ok (ii (fs.getD b 0)) st := fun st rs' hst => idx_V (v_obj rfl) (v_int rfl) (idx_O (rc1 hst) gm)
    have fin : ∀ (rr : Row), OkR fs rr → nextF fs rr = fs.getD b 0 → ev (callsOf lt.T (k + 3)) (.ife (.cmp .eq (.var 9) (.int 3)) (.tup (.cons (.str "rest") (.cons (.var 7) .nil))) (.tup (.cons (.str "greatest") (.cons (.blt false .tuple1 (.cons (.var 10) .nil)) .nil)))) [.obj 1, x1, x2, x, x4, .obj (r.length + 2), .obj (r.length + 3), ii b, y8, ii w, .lst (S.map ii), x11, x12, x13] s1 = .ok (rowV rr) s1 → ∃ (rw_ : Row) (y7 y8 y9 y10 y11 y12 : PV) (s' : Store), OkR fs rw_ ∧ St cs (B + 100) (RC r (rs ++ [rw_]) (fs ++ [nextF fs rw_])) s' ∧
      bodyF (callsOf lt.T (k + 3)) (.one 3) coB x [.obj 1, x1, x2, x3, x4, .obj (r.length + 2), .obj (r.length + 3), x7, x8, x9, x10, x11, x12, x13] s = .nx [.obj 1, x1, x2, x, x4, .obj (r.length + 2), .obj (r.length + 3), y7, y8, y9, y10, y11, y12, x13] s' := fun rr okr enx hev => by
      have h5 := rw0 h1 rr
      have h6 := rw1 h5 (nextF fs rr)
      refine ⟨rr, ii b, y8, ii w, .lst (S.map ii), x11, x12, _, okr, h6.le (by omega), ?_⟩
      refine (e1 _).trans ?_
      refine ifs_F (lt_F (v_int rfl) int_V (by omega)) ?_ nil_N
      refine expr_N (append_V (v_obj rfl) (rc0 h1) hev (rc0 h1) (by rw [List.length_map]; omega)) (expr_N (append_V (v_obj rfl) (rc1 h5) ?_ (rc1 h5) (by rw [List.length_map]; omega)) nil_N)
      rw [enx]
      exact c6 _ _ h5
    by_cases q2 : w = 3
    · subst q2
      obtain ⟨okr, enx⟩ := Sel.rest hb
      exact fin (.rest b) okr enx (MP.ife_T (eqi_T (v_int rfl) int_V rfl) (tup_V (es2 str_V (v_int rfl)) (show 2 ≤ 16777216 by decide)))
    · obtain ⟨okr, enx⟩ := hS.gr
      exact fin (.gr S) okr enx (MP.ife_F (eqi_F (v_int rfl) int_V (by omega)) (tup_V (es2 str_V (blt1_V (v_lst rfl) rfl)) (show 2 ≤ 16777216 by decide)))
end K55

/-! k55: drawn code, drawn points. -/
namespace K55
open PySem L2 TL SX MP
theorem co_loop (k : Nat) {cs : List Nat} {r : Store} (hr : Flat r) (n : Nat) (n1 : 1 ≤ n) (n2 : n ≤ 4) (x1 x2 x4 x13 : PV) : ∀ (items : List PV) (rs : List Row) (B : Nat) (s : Store) (x3 x7 x8 x9 x10 x11 x12 : PV), St cs B (RC r rs (facs (List.replicate n 1) rs)) s → OkRs (List.replicate n 1) rs → rs.length + items.length ≤ 9 → B + 100 * items.length + 3000 < 2 ^ 40 →
    ∃ (rs' : List Row) (y3 y7 y8 y9 y10 y11 y12 : PV) (s' : Store), forLoop (bodyF (callsOf lt.T (k + 3)) (.one 3) coB) [] items [.obj 1, x1, x2, x3, x4, .obj (r.length + 2), .obj (r.length + 3), x7, x8, x9, x10, x11, x12, x13] s = .nx [.obj 1, x1, x2, y3, x4, .obj (r.length + 2), .obj (r.length + 3), y7, y8, y9, y10, y11, y12, x13] s' ∧
      OkRs (List.replicate n 1) rs' ∧ rs'.length ≤ 9 ∧ St cs (B + 100 * items.length) (RC r rs' (facs (List.replicate n 1) rs')) s'
  | [], rs, B, s, x3, x7, x8, x9, x10, x11, x12, h, ho, hl, hB => ⟨rs, x3, x7, x8, x9, x10, x11, x12, s, for_nil rfl, ho, by simpa using hl, h⟩
  | x :: items, rs, B, s, x3, x7, x8, x9, x10, x11, x12, h, ho, hl, hB => by
    rw [List.length_cons] at hl
    have hfl : (facs (List.replicate n 1) rs).length = n + rs.length := by rw [facs_len, List.length_replicate]
    have hup : Up 60 (facs (List.replicate n 1) rs) := fun y hy => by
      have := facs_up ho (up_one n) y hy
      exact ⟨this.1, Nat.lt_of_lt_of_le this.2 (pow_mono (by omega))⟩
    obtain ⟨rr, y7, y8, y9, y10, y11, y12, s1, okr, h1, e1⟩ := co_turn k h hr (by omega) (by omega) (by omega) hup (by omega) x1 x2 x3 x4 x7 x8 x9 x10 x11 x12 x13 x
    rw [← facs_snoc] at h1
    rw [List.length_cons] at hB
    obtain ⟨rs', z3, z7, z8, z9, z10, z11, z12, s', q1, q2, q3, q4⟩ := co_loop k hr n n1 n2 x1 x2 x4 x13 items (rs ++ [rr]) (B + 100) s1 x y7 y8 y9 y10 y11 y12 h1 (okrs_snoc ho okr) (by rw [List.length_append, List.length_singleton]; omega) (by omega)
    exact ⟨rs', z3, z7, z8, z9, z10, z11, z12, s', (for_nx rfl e1).trans q1, q2, q3, by rw [List.length_cons, show B + 100 * (items.length + 1) = B + 100 + 100 * items.length by omega]; exact q4⟩
theorem comp_nil {f : PV → Store → Res (Option PV)} {acc : List PV} {s : Store} : compLoop f [] [] acc s = .ok acc s := by
  unfold compLoop
  rw [if_pos (show liveOk _ [] = true from rfl)]
theorem comp_one {f : PV → Store → Res (Option PV)} {x y : PV} {xs acc : List PV} {s s1 : Store} (h : f x s = .ok (some y) s1) (hl : acc.length < 16777216) : compLoop f [] (x :: xs) acc s = compLoop f [] xs (acc ++ [y]) s1 := by
  conv => lhs; unfold compLoop
  rw [if_pos (show liveOk _ [] = true from rfl), h]
  dsimp only
  rw [if_pos (by rw [line_eq]; exact hl)]
theorem compF_V {C : Calls} {tg : Tg} {own : List Nat} {elt : IE} {env env' : MP.Env} {x y : PV} {s s1 : Store} (hb : bindTg tg x s (own.foldl (fun e i => e.set i .und) env) = some env') (he : ev C elt env' s = .ok y s1) : compF tg own (fun _ s => .ok true s) (fun env s => ev C elt env s) env x s = .ok (some y) s1 := by
  unfold compF
  rw [hb]
  dsimp only [Res.bind_ok]
  rw [if_pos rfl, he]
  rfl
theorem comp_V {C : Calls} {tg : Tg} {own : List Nat} {elt : IE} {it : IT} {env : MP.Env} {s s1 s2 : Store} {items ys : List PV} (hit : evit C it env s = .ok ⟨items, []⟩ s1) (h : compLoop (compF tg own (fun _ s => .ok true s) (fun env s => ev C elt env s) env) [] items [] s1 = .ok ys s2) : ev C (.comp false elt tg own it .no) env s = .ok (.lst ys) s2 := by
  rw [ev.eq_26, hit, Res.bind_ok]
  dsimp only
  rw [h]
  rfl
def ouE : IE := .call "_law_draw" (.cons (.var 0) (.cons (.blt false .len (.cons (.var 6) .nil)) .nil))
theorem ou_loop (k : Nat) {cs : List Nat} {r : Store} {rs : List Row} {fs : List Nat} (h0 : 0 < fs.length) (hz : fs.length < 50) (env : MP.Env) (e0 : ∀ x, (env.set 3 x)[0]? = some (.obj 1)) (e6 : ∀ x, (env.set 3 x)[6]? = some (.obj (r.length + 3))) : ∀ (items acc : List PV) (B : Nat) (s : Store), St cs B (RC r rs fs) s → B + items.length < 2 ^ 40 → acc.length + items.length ≤ 1000 →
    ∃ (os : List Nat) (s' : Store), compLoop (compF (.one 3) [3] (fun _ s => .ok true s) (fun env s => ev (callsOf lt.T (k + 3)) ouE env s) env) [] items acc s = .ok (acc ++ os.map ii) s' ∧ os.length = items.length ∧ (∀ o ∈ os, o < fs.length) ∧ St cs (B + items.length) (RC r rs fs) s'
  | [], acc, B, s, h, _, _ => ⟨[], s, by rw [List.map_nil, List.append_nil]; exact comp_nil, rfl, (fun _ h => by cases h), h⟩
  | x :: items, acc, B, s, h, hB, hz2 => by
    rw [List.length_cons] at hB hz2
    obtain ⟨v, s1, hv, h1, e1⟩ := d3 k h fs.length h0 (by omega) (by omega)
    obtain ⟨os, s', q1, q2, q3, q4⟩ := ou_loop k h0 hz env e0 e6 items (acc ++ [ii v]) (B + 1) s1 h1 (by omega) (by rw [List.length_append, List.length_singleton]; omega)
    refine ⟨v :: os, s', ?_, by rw [List.length_cons, List.length_cons, q2], fun o ho => ?_, by rw [List.length_cons, show B + (items.length + 1) = B + 1 + items.length by omega]; exact q4⟩
    · have ee : ev (callsOf lt.T (k + 3)) ouE ((env.set 3 .und).set 3 x) s = .ok (ii v) s1 := by
        rw [List.set_set]
        have q := lenO_V (C := callsOf lt.T (k + 3)) (a := .var 6) (env := env.set 3 x) (s := s) (v_obj (e6 x)) (rc1 h)
        rw [List.length_map] at q
        exact call2_V (v_obj (e0 x)) q e1
      rw [comp_one (compF_V rfl ee) (by omega), q1, List.append_assoc]
      rfl
    · rcases List.mem_cons.mp ho with rfl | ho
      · exact hv
      · exact q3 o ho
theorem t_code : lt.T.fn "_law_wh_code" = some ⟨3, 14, b_law_wh_code⟩ := by rfl
def ouI : IT := .rng1 (.bin false .add (.int 1) (drE 3))
theorem code_eq : b_law_wh_code = .cons (.asgt [5, 6] (.tup (.cons (.lst true .nil) (.cons (.bin true .mul (.lst false (.cons (.int 1) .nil)) (.var 1)) .nil)))) (.cons (.for (.one 3) (.rng1 (.call "_law_draw" (.cons (.var 0) (.cons (.bin false .add (.var 2) (.int 1)) .nil)))) coB) (.cons (.asg 4 (.blt false .tuple1 (.cons (.comp false ouE (.one 3) [3] ouI .no) .nil))) (.cons (.ret (.tup (.cons (.var 1) (.cons (.blt false .tuple1 (.cons (.var 5) .nil)) (.cons (.var 4) .nil))))) .nil))) := by rfl
theorem inb_code (k : Nat) (c : Code) : PV.inb k (codeV c) = true := by
  unfold codeV
  have : PV.inbs k (c.rows.map rowV) = true := by
    rw [inbs_all]
    exact List.all_eq_true.mpr fun x hx => by
      obtain ⟨t, _, rfl⟩ := List.mem_map.mp hx
      exact inb_row _ _
  rw [PV.inb, inbs_cons, inbs_cons, inbs_cons, inb_ii, PV.inb, PV.inb, this, inbs_ii]
  rfl
theorem s_code (k : Nat) {cs : List Nat} {B : Nat} {r s : Store} (h : St cs B r s) (hr : Flat r) (n : Nat) (n1 : 1 ≤ n) (n2 : n ≤ 4) (hB : B + 9000 < 2 ^ 40) : ∃ (c : Code) (s' : Store), callF lt.T (k + 4) "_law_wh_code" [.obj 1, ii n, .int 9] s = .ok (codeV c) s' ∧ OkC c ∧ c.n = n ∧ St cs (B + 2000) r s' := by
  have hl := h.len
  have h0 : St cs B (RC r [] (facs (List.replicate n 1) [])) (s ++ [.lst []] ++ [.lst ((List.replicate n 1).map ii)]) := by
    rw [List.append_assoc]
    exact h.push _
  obtain ⟨m, s1, hm, h1, e1⟩ := d3 k h0 10 (by decide) (by decide) (by omega)
  obtain ⟨rs, y3, y7, y8, y9, y10, y11, y12, s2, q1, q2, q3, q4⟩ := co_loop k hr n n1 n2 (ii n) (.int 9) .und .und ((List.range m).map fun (j : Nat) => .int (j : Int)) [] (B + 1) s1 .und .und .und .und .und .und .und h1 trivial (by rw [List.length_nil, List.length_map, List.length_range]; omega) (by rw [List.length_map, List.length_range]; omega)
  rw [List.length_map, List.length_range] at q4
  have hfl : (facs (List.replicate n 1) rs).length = n + rs.length := by rw [facs_len, List.length_replicate]
  obtain ⟨d, s3, hd, h3, e3⟩ := d3 k q4 3 (by decide) (by decide) (by omega)
  obtain ⟨os, s4, p1, p2, p3, p4⟩ := ou_loop k (by omega) (by omega) [.obj 1, ii n, .int 9, y3, .und, .obj (r.length + 2), .obj (r.length + 3), y7, y8, y9, y10, y11, y12, .und] (fun _ => rfl) (fun _ => rfl) ((List.range (1 + d)).map fun (j : Nat) => .int (j : Int)) [] _ s3 h3 (by rw [List.length_map, List.length_range]; omega) (by rw [List.length_nil, List.length_map, List.length_range]; omega)
  rw [List.length_map, List.length_range] at p2 p4
  have okc : OkC ⟨n, rs, os⟩ := ⟨n1, n2, q3, q2, by show 1 ≤ os.length; omega, by show os.length ≤ 3; omega, fun o ho => by have := p3 o ho; show o < n + rs.length; omega⟩
  have hrun : exs (callsOf lt.T (k + 3)) b_law_wh_code [.obj 1, ii n, .int 9, .und, .und, .und, .und, .und, .und, .und, .und, .und, .und, .und] s = .rt (codeV ⟨n, rs, os⟩) s4 := by
    rw [code_eq]
    have c1 : ev (callsOf lt.T (k + 3)) (.tup (.cons (.lst true .nil) (.cons (.bin true .mul (.lst false (.cons (.int 1) .nil)) (.var 1)) .nil))) [.obj 1, ii n, .int 9, .und, .und, .und, .und, .und, .und, .und, .und, .und, .und, .und] s = .ok (.tup [.obj (r.length + 2), .obj (r.length + 3)]) (s ++ [.lst []] ++ [.lst ((List.replicate n 1).map ii)]) := by
      have q := mulLB_V (C := callsOf lt.T (k + 3)) (a := .lst false (.cons (.int 1) .nil)) (b := .var 1) (env := [.obj 1, ii n, .int 9, .und, .und, .und, .und, .und, .und, .und, .und, .und, .und, .und]) (s := s ++ [.lst []]) (xs := [ii 1]) (k := n) (lst_V (es1 (int_V (k := 1))) (show 1 ≤ 16777216 by decide)) (v_int rfl) (by show 1 * n ≤ _; omega) (by omega)
      rw [rep_one, List.length_append, List.length_singleton, hl] at q
      rw [List.map_replicate]
      have a := nilB_V (C := callsOf lt.T (k + 3)) (env := [.obj 1, ii n, .int 9, .und, .und, .und, .und, .und, .und, .und, .und, .und, .und, .und]) (s := s)
      rw [hl] at a
      exact tup_V (es2 a q) (show 2 ≤ 16777216 by decide)
    have c2 : evit (callsOf lt.T (k + 3)) (.rng1 (.call "_law_draw" (.cons (.var 0) (.cons (.bin false .add (.var 2) (.int 1)) .nil)))) [.obj 1, ii n, .int 9, .und, .und, .obj (r.length + 2), .obj (r.length + 3), .und, .und, .und, .und, .und, .und, .und] (s ++ [.lst []] ++ [.lst ((List.replicate n 1).map ii)]) = .ok ⟨(List.range m).map fun (j : Nat) => .int (j : Int), []⟩ s1 := it_R (call2_V (v_obj rfl) (add_V (v_int rfl) int_V) e1) (by omega)
    have c3 : evit (callsOf lt.T (k + 3)) ouI [.obj 1, ii n, .int 9, y3, .und, .obj (r.length + 2), .obj (r.length + 3), y7, y8, y9, y10, y11, y12, .und] s2 = .ok ⟨(List.range (1 + d)).map fun (j : Nat) => .int (j : Int), []⟩ s3 := by
      refine it_R ?_ (by omega)
      rw [Int.natCast_add]
      exact add_V int_V (call2_V (v_obj rfl) int_V e3)
    have c4 := comp_V c3 p1
    rw [List.nil_append] at c4
    refine asgt2_N c1 (for_N c2 q1 (asg_N (blt1_V c4 rfl) (ret_V (tup_V (es3 (v_int rfl) (blt1_V (x := .obj (r.length + 2)) (v := .tup (rs.map rowV)) (v_obj rfl) ?_) (v_tup rfl)) (show 3 ≤ 16777216 by decide)))))
    show (asSeq s4 (.obj (r.length + 2))).map PV.tup = _
    have : asSeq s4 (.obj (r.length + 2)) = some (rs.map rowV) := by
      show (match s4[r.length + 2]? with | some (.lst xs) => some xs | _ => none) = _
      rw [rc0 p4]
    rw [this]
    rfl
  obtain ⟨s', z1, z2⟩ := St.back (r2 := [.lst (rs.map rowV), .lst ((facs (List.replicate n 1) rs).map ii)]) (v := codeV ⟨n, rs, os⟩) (v' := codeV ⟨n, rs, os⟩) hl p4 hr (freeze_in (inb_code _ _) 3)
  exact ⟨⟨n, rs, os⟩, s', (call_rt (k := k + 3) (vs := [.obj 1, ii n, .int 9]) t_code rfl hrun).trans z1, okc, rfl, z2.le (by omega)⟩
/-! ### points -/
def l4 : IE := .lst false (.cons (.int 1) (.cons (.int 1) (.cons (.int 2) (.cons (.int 3) (.cons (.int 7) (.cons (.bin false .pow (.int 10) (.int 9)) .nil))))))
def is4 : List Int := [1, 1, 2, 3, 7, 1000000000]
theorem l4_V {C : Calls} {env : MP.Env} {s : Store} : ev C l4 env s = .ok (.lst (is4.map .int)) s := lst_V (es_c int_V (es_c int_V (es_c int_V (es_c int_V (es_c int_V (es_c (pow_V int_V (int_V (k := ((9 : Nat) : Int))) (by decide) (by decide) (by decide)) es0)))))) (show 6 ≤ 16777216 by decide)
theorem is4_ok : ∀ i ∈ is4, 0 < i ∧ i.natAbs < 2 ^ 30 := by decide
def ptE : IE := .call "_law_wn_cut" (.cons (.bin false .sub (drE 41) (.int 20)) (.cons (.call "_law_pick" (.cons (.var 0) (.cons l4 .nil))) .nil))
/-- a fraction above a divisor -/
structure Fr (q : Int × Nat) : Prop where
  n : q.1.natAbs < 2 ^ 60
  d : 0 < q.2 ∧ q.2 < 2 ^ 30
  r : Nat.gcd q.1.natAbs q.2 = 1
theorem low_fr {a d : Int} (hd : 0 < d) (ha : a.natAbs < 2 ^ 60) (hd2 : d.natAbs < 2 ^ 30) : ∃ q : Int × Nat, Q (lowP a d) = tV q ∧ Fr q := by
  obtain ⟨g, hg, e1, e2, hp⟩ := low_parts (x := a) hd
  have up := low_up (x := a) (M := d) hd ha hd2
  refine ⟨((lowP a d).1, (lowP a d).2.toNat), ?_, up.1, ⟨by show 0 < (lowP a d).2.toNat; omega, by show (lowP a d).2.toNat < 2 ^ 30; have := up.2; omega⟩, ?_⟩
  · unfold Q tV
    show _ = PV.tup [PV.int (lowP a d).1, PV.int (((lowP a d).2.toNat : Nat) : Int)]
    rw [Int.toNat_of_nonneg (by omega)]
  · show Nat.gcd (lowP a d).1.natAbs (lowP a d).2.toNat = 1
    have gd := gI_pos (n := a) (d := d) (by omega)
    rw [low_pos hd]
    show Nat.gcd (a / gI a d).natAbs (d / gI a d).toNat = 1
    have h1 : gI a d ∣ a := by
      unfold gI
      exact Int.ofNat_dvd_left.mpr (Nat.gcd_dvd_left _ _)
    have h2 : gI a d ∣ d := by
      unfold gI
      exact Int.ofNat_dvd_left.mpr (Nat.gcd_dvd_right _ _)
    have e3 : (a / gI a d).natAbs = a.natAbs / Nat.gcd a.natAbs d.natAbs := by
      rw [Int.natAbs_ediv_of_dvd h1]
      unfold gI
      rw [Int.natAbs_natCast]
    have e4 : (d / gI a d).toNat = d.natAbs / Nat.gcd a.natAbs d.natAbs := by
      have : (d / gI a d).natAbs = d.natAbs / Nat.gcd a.natAbs d.natAbs := by
        rw [Int.natAbs_ediv_of_dvd h2]
        unfold gI
        rw [Int.natAbs_natCast]
      rw [← this]
      have : 0 ≤ d / gI a d := Int.ediv_nonneg (by omega) (by omega)
      omega
    rw [e3, e4]
    exact Nat.gcd_div_gcd_div_gcd_of_pos_right (by omega)
theorem pt_loop (k : Nat) {cs : List Nat} {R : Store} (env : MP.Env) (e0 : ∀ x, (env.set 2 x)[0]? = some (.obj 1)) : ∀ (items acc : List PV) (B : Nat) (s : Store), St cs B R s → B + 2 * items.length < 2 ^ 40 → acc.length + items.length ≤ 1000 →
    ∃ (p : Pt) (s' : Store), compLoop (compF (.one 2) [2] (fun _ s => .ok true s) (fun env s => ev (callsOf lt.T (k + 3)) ptE env s) env) [] items acc s = .ok (acc ++ p.map tV) s' ∧ p.length = items.length ∧ (∀ q ∈ p, Fr q) ∧ St cs (B + 2 * items.length) R s'
  | [], acc, B, s, h, _, _ => ⟨[], s, by rw [List.map_nil, List.append_nil]; exact comp_nil, rfl, (fun _ h => by cases h), h⟩
  | x :: items, acc, B, s, h, hB, hz2 => by
    rw [List.length_cons] at hB hz2
    obtain ⟨v, s1, hv, h1, e1⟩ := d3 k h 41 (by decide) (by decide) (by omega)
    obtain ⟨d, s2, hd, h2, e2⟩ := pickI k h1 (by omega) is4 (by decide) (by decide)
    obtain ⟨d1, d2⟩ := is4_ok d hd
    obtain ⟨q, eq, fq⟩ := low_fr (a := (v : Int) - 20) (d := d) d1 (by omega) d2
    obtain ⟨p, s', q1, q2, q3, q4⟩ := pt_loop k env e0 items (acc ++ [tV q]) (B + 1 + 1) s2 h2 (by omega) (by rw [List.length_append, List.length_singleton]; omega)
    refine ⟨q :: p, s', ?_, by rw [List.length_cons, List.length_cons, q2], fun o ho => ?_, by rw [List.length_cons, show B + 2 * (items.length + 1) = B + 1 + 1 + 2 * items.length by omega]; exact q4⟩
    · have ee : ev (callsOf lt.T (k + 3)) ptE ((env.set 2 .und).set 2 x) s = .ok (tV q) s2 := by
        rw [List.set_set, ← eq]
        exact call2_V (sub_V (call2_V (v_obj (e0 x)) int_V e1) int_V) (call2_V (v_obj (e0 x)) l4_V e2) (s_cut (k + 2) s2 _ d d1 (Nat.lt_of_lt_of_le d2 (pow_mono (by decide))))
      rw [comp_one (compF_V rfl ee) (by omega), q1, List.append_assoc]
      rfl
    · rcases List.mem_cons.mp ho with rfl | ho
      · exact fq
      · exact q3 o ho
theorem t_point : lt.T.fn "_law_wh_point" = some ⟨2, 3, b_law_wh_point⟩ := by rfl
theorem point_eq : b_law_wh_point = .cons (.ret (.blt false .tuple1 (.cons (.comp false ptE (.one 2) [2] (.rng1 (.var 1)) .no) .nil))) .nil := by rfl
theorem inb_pt (k : Nat) (p : Pt) : PV.inb k (ptV p) = true := by
  unfold ptV
  rw [PV.inb, inbs_all]
  exact List.all_eq_true.mpr fun x hx => by
    obtain ⟨t, _, rfl⟩ := List.mem_map.mp hx
    exact inb_tV _ _
theorem s_point (k : Nat) {cs : List Nat} {B : Nat} {r s : Store} (h : St cs B r s) (hr : Flat r) (n : Nat) (n2 : n ≤ 4) (hB : B + 100 < 2 ^ 40) : ∃ (p : Pt) (s' : Store), callF lt.T (k + 4) "_law_wh_point" [.obj 1, ii n] s = .ok (ptV p) s' ∧ OkP p ∧ p.length = n ∧ St cs (B + 100) r s' := by
  have hl := h.len
  obtain ⟨p, s1, q1, q2, q3, q4⟩ := pt_loop k [.obj 1, ii n, .und] (fun _ => rfl) ((List.range n).map fun (j : Nat) => .int (j : Int)) [] B s h (by rw [List.length_map, List.length_range]; omega) (by rw [List.length_nil, List.length_map, List.length_range]; omega)
  rw [List.length_map, List.length_range] at q2 q4
  have okp : OkP p := ⟨by omega, fun x hx => by
    obtain ⟨q, hq, rfl⟩ := List.mem_map.mp hx
    exact (q3 q hq).d, fun q hq => (q3 q hq).n, fun q hq => (q3 q hq).r⟩
  have c4 := comp_V (C := callsOf lt.T (k + 3)) (it := .rng1 (.var 1)) (env := [.obj 1, ii n, .und]) (s := s) (it_R (v_int rfl) (by omega)) q1
  rw [List.nil_append] at c4
  have hrun : exs (callsOf lt.T (k + 3)) b_law_wh_point [.obj 1, ii n, .und] s = .rt (ptV p) s1 := by
    rw [point_eq]
    exact ret_V (blt1_V c4 rfl)
  have q4' : St cs (B + 2 * n) (r ++ []) s1 := by rw [List.append_nil]; exact q4
  obtain ⟨s', z1, z2⟩ := St.back (v := ptV p) (v' := ptV p) hl q4' hr (freeze_in (inb_pt _ _) 3)
  exact ⟨p, s', (call_rt (k := k + 3) (vs := [.obj 1, ii n]) t_point rfl hrun).trans z1, okp, q2, z2.le (by omega)⟩
end K55

/-! k55: what is asked in one turn. -/
namespace K55
open PySem L2 TL SX MP
theorem t_same : lt.T.fn "_law_wh_same" = some ⟨2, 2, b_law_wh_same⟩ := by rfl
theorem s_same (k : Nat) (s : Store) (v : PV) {n : Nat} (hv : plN n v = true) (hn : n ≤ 60) (hd : isDisp (toD v) = true) (hb : (toD v).bulk ≤ 2000) : callF lt.T (k + 1) "_law_wh_same" [v, v] s = .ok (.bl true) s := by
  have nu : v ≠ .und := by
    intro z
    subst z
    cases n <;> exact absurd hv Bool.false_ne_true
  have e := repr_pl (sub := (callsOf lt.T k).sub) (s := s) hv hn hd hb
  exact call_pure t_same rfl (inb_bl _ _) (ret_V (eqs_T (blt1_V (ev_v rfl nu) e) (blt1_V (ev_v rfl nu) e) rfl))
theorem bulk_ints : ∀ l : List Int, PyData.bulkAll (toDs (l.map .int)) = l.length
  | [] => by simp [toDs, PyData.bulkAll]
  | x :: l => by
    rw [List.map_cons, toDs, PyData.bulkAll, bulk_ints l, toD, PyData.bulk, List.length_cons]
    omega
theorem bulk_Qs : ∀ l : List (Int × Int), PyData.bulkAll (toDs (l.map Q)) ≤ 3 * l.length
  | [] => by simp [toDs, PyData.bulkAll]
  | x :: l => by
    have := bulk_Qs l
    have e : (toD (Q x)).bulk = 2 := by
      simp [Q, toD, toDs, PyData.bulk, PyData.bulkAll]
    rw [List.map_cons, toDs, PyData.bulkAll, e, List.length_cons]
    omega
theorem cells_up {c : Code} {p : Pt} (h : OkC c) (hp : OkP p) : XB 1650 (cellsC c p) := fun x hx => by
  have m := h.m
  exact Nat.lt_of_lt_of_le (cellsL_up (divP_up hp).2 h.rows (up_one _) (by omega) (startX_up hp) (by omega) x hx) (pow_mono (by omega))
theorem cells_len {c : Code} {p : Pt} (hn : p.length = c.n) : (cellsC c p).length = c.n + c.rows.length := by
  unfold cellsC
  rw [cellsL_len, List.length_map, hn]
theorem log_Q {p : Int × Int} {m n : Nat} (h : Nb p m n) (hm : m ≤ 1800) (hn : n ≤ 1800) (m0 : 0 < m) (n0 : 0 < n) {j : Nat} : plN (j + 1) (Q p) = true := pl_tup fun x hx => by
  rcases List.mem_cons.mp hx with rfl | hx
  · exact pl_int (log_lt h.n (by omega) m0)
  · rw [List.mem_singleton.mp hx]
    exact pl_int (log_lt h.d (by omega) n0)
theorem fac_up {c : Code} (h : OkC c) {o : Nat} (ho : o < c.n + c.rows.length) : 0 < (facC c).getD o 0 ∧ (facC c).getD o 0 < 2 ^ 46 := facC_up h _ (List.mem_of_getElem? (getD_at (l := facC c) (c := o) (by rw [facC_len]; exact ho)))
theorem M_up {c : Code} {p : Pt} (h : OkC c) (hp : OkP p) {f : Nat} (hf : 0 < f ∧ f < 2 ^ 46) : 0 < divP p * f ∧ divP p * f < 2 ^ 167 := by
  have hD := divP_up hp
  refine ⟨Nat.mul_pos hD.1 hf.1, ?_⟩
  have : divP p * f < 2 ^ 121 * 2 ^ 46 := Nat.mul_lt_mul_of_lt_of_lt hD.2 hf.2
  rw [← Nat.pow_add] at this
  exact this
/-! ### due -/
def duB : ISs := .cons (.expr (.meth .append (.var 6) (.cons (.bin false .mul (.idx (.var 13) (.int 0)) (.bin false .fdiv (.bin false .mul (.var 12) (.var 14)) (.idx (.var 13) (.int 1)))) .nil))) .nil
theorem du_loop (k : Nat) (s : Store) (D : Nat) (hD : D < 2 ^ 121) (x0 x1 x2 x3 x4 x5 x7 x8 x9 x10 x11 x15 : PV) : ∀ (zs : List (Int × Nat)) (acc : List Int) (x13 x14 : PV), (∀ z ∈ zs, z.1.natAbs < 2 ^ 1650 ∧ 0 < D * z.2 ∧ D * z.2 < 2 ^ 167) → acc.length + zs.length ≤ 1000 →
    ∃ y13 y14, forLoop (bodyF (callsOf lt.T k) (.many [13, 14]) duB) [] (zs.map fun z => .tup [vq (D * z.2) z.1, ii z.2]) [x0, x1, x2, x3, x4, x5, .obj s.length, x7, x8, x9, x10, x11, ii D, x13, x14, x15] (s ++ [.lst (acc.map .int)]) = .nx [x0, x1, x2, x3, x4, x5, .obj s.length, x7, x8, x9, x10, x11, ii D, y13, y14, x15] (s ++ [.lst ((acc ++ zs.map (·.1)).map .int)])
  | [], acc, x13, x14, _, _ => ⟨x13, x14, by rw [List.map_nil, List.map_nil, List.append_nil]; exact for_nil rfl⟩
  | z :: zs, acc, x13, x14, h, hl => by
    rw [List.length_cons] at hl
    obtain ⟨hx, hM, hM2⟩ := h z List.mem_cons_self
    obtain ⟨y13, y14, e⟩ := du_loop k s D hD x0 x1 x2 x3 x4 x5 x7 x8 x9 x10 x11 x15 zs (acc ++ [z.1]) (vq (D * z.2) z.1) (ii z.2) (fun w hw => h w (List.mem_cons_of_mem _ hw)) (by rw [List.length_append, List.length_singleton]; omega)
    refine ⟨y13, y14, Eq.trans (for_nx rfl ?_) (e.trans (by rw [List.append_assoc]; rfl))⟩
    have hs : (s ++ [SO.lst (acc.map PV.int)])[s.length]? = some (.lst (acc.map .int)) := at_new
    have nb := low_nb (x := z.1) hM hx hM2
    have b1 := bits_int nb.n
    have b2 := bits_int nb.d
    have b3 := bits_nat hM2
    have b4 := bits_nat hD
    have hz2 : z.2 < 2 ^ 167 := by
      have : 0 < D := by
        rcases Nat.eq_zero_or_pos D with q | q
        · rw [q, Nat.zero_mul] at hM; omega
        · exact q
      exact Nat.lt_of_le_of_lt (Nat.le_mul_of_pos_left z.2 this) hM2
    have b5 := bits_nat hz2
    have c1 : ev (callsOf lt.T k) (.bin false .mul (.var 12) (.var 14)) [x0, x1, x2, x3, x4, x5, .obj s.length, x7, x8, x9, x10, x11, ii D, vq (D * z.2) z.1, ii z.2, x15] (s ++ [.lst (acc.map .int)]) = .ok (.int ((D * z.2 : Nat) : Int)) (s ++ [.lst (acc.map .int)]) := by
      rw [Int.natCast_mul]
      exact mul_V (v_int rfl) (v_int rfl) (by omega)
    have hq : (((D * z.2 : Nat) : Int) / (lowP z.1 ((D * z.2 : Nat) : Int)).2).natAbs < 2 ^ 167 := by
      have h1 : (((D * z.2 : Nat) : Int) / (lowP z.1 ((D * z.2 : Nat) : Int)).2).natAbs ≤ (((D * z.2 : Nat) : Int)).natAbs := Int.natAbs_ediv_le_natAbs _ _
      rw [Int.natAbs_natCast] at h1
      omega
    have b6 := bits_int hq
    have c2 : ev (callsOf lt.T k) (.bin false .mul (.idx (.var 13) (.int 0)) (.bin false .fdiv (.bin false .mul (.var 12) (.var 14)) (.idx (.var 13) (.int 1)))) [x0, x1, x2, x3, x4, x5, .obj s.length, x7, x8, x9, x10, x11, ii D, vq (D * z.2) z.1, ii z.2, x15] (s ++ [.lst (acc.map .int)]) = .ok (.int z.1) (s ++ [.lst (acc.map .int)]) := by
      have q := mul_V (q0_V (vQ (C := callsOf lt.T k) (i := 13) (env := [x0, x1, x2, x3, x4, x5, .obj s.length, x7, x8, x9, x10, x11, ii D, vq (D * z.2) z.1, ii z.2, x15]) (s := s ++ [.lst (acc.map .int)]) (p := lowP z.1 ((D * z.2 : Nat) : Int)) rfl)) (fdiv_V c1 (q1_V (vQ (i := 13) (p := lowP z.1 ((D * z.2 : Nat) : Int)) rfl)) ⟨nb.ps, by omega⟩) (by omega)
      rw [low_back (by omega)] at q
      exact q
    show exs (callsOf lt.T k) duB [x0, x1, x2, x3, x4, x5, .obj s.length, x7, x8, x9, x10, x11, ii D, vq (D * z.2) z.1, ii z.2, x15] (s ++ [.lst (acc.map .int)]) = _
    refine expr_N (append_V (v_obj rfl) hs c2 hs (by rw [List.length_map]; omega)) ?_
    rw [nil_N, set_new, List.map_append]
    rfl
theorem zip_V {D : Nat} {xs : List Int} {fs : List Nat} : ((VL D xs fs).zip (fs.map ii)).map (fun p => PV.tup [p.1, p.2]) = (xs.zip fs).map fun z => .tup [vq (D * z.2) z.1, ii z.2] := by
  unfold VL
  induction xs generalizing fs with
  | nil => rfl
  | cons x xs ih =>
    cases fs with
    | nil => rfl
    | cons f fs =>
      simp only [List.zip_cons_cons, List.map_cons]
      rw [ih]
theorem zip_fst {xs : List Int} {fs : List Nat} (h : xs.length = fs.length) : (xs.zip fs).map (·.1) = xs := by
  induction xs generalizing fs with
  | nil => rfl
  | cons x xs ih =>
    cases fs with
    | nil => simp at h
    | cons f fs =>
      rw [List.zip_cons_cons, List.map_cons, ih (by simpa using h)]
/-! ### what is no vector -/
theorem vl_one (s : Store) : Vl s (.int 1) := .no (by intro z; cases z) rfl
theorem vl_ab (s : Store) (a b : Int) (ha : a.natAbs < 2 ^ 499) (hb : b.natAbs < 2 ^ 499) : Vl s (.tup [.int a, .int b]) := .pair ⟨ha, hb⟩
theorem vl_b1 (s : Store) : Vl s (.tup [.bl true, .int 1]) := .two (i := false) (j := true) ⟨(by intro z; cases z), true, true, rfl, rfl, rfl⟩ ⟨(by intro z; cases z), true, false, rfl, rfl, rfl⟩ rfl
theorem vec_app (k : Nat) (s : Store) {p : Pt} (hp : OkP p) (q : Pt) (hq : ∀ x ∈ q, x ∈ p) (hql : q.length ≤ 4) (w : PV) (hw : Vl s w) (n : Nat) (h : q.length + 1 ≠ n ∨ isF none w = false) : callF lt.T (k + 4) "is_vector" [.tup (q.map tV ++ [w]), ii n] s = .ok (.bl false) s := by
  have e := s_vec k s (q.map tV ++ [w]) n (by rw [List.length_append, List.length_map, List.length_singleton]; omega) (fun x hx => by
    rcases List.mem_append.mp hx with hx | hx
    · obtain ⟨y, hy, rfl⟩ := List.mem_map.mp hx
      exact vl_tV hp (hq y hy)
    · rw [List.mem_singleton.mp hx]
      exact hw)
  have ef : (decide ((q.map tV ++ [w]).length = n) && (q.map tV ++ [w]).all (isF none)) = false := by
    rw [List.length_append, List.length_map, List.length_singleton, List.all_append]
    rcases h with h | h
    · rw [decide_eq_false h]
      rfl
    · simp [h]
  rw [ef] at e
  exact e
theorem vec_short (k : Nat) (s : Store) {p : Pt} (hp : OkP p) (q : Pt) (hq : ∀ x ∈ q, x ∈ p) (hql : q.length ≤ 4) (n : Nat) (h : q.length ≠ n) : callF lt.T (k + 4) "is_vector" [.tup (q.map tV), ii n] s = .ok (.bl false) s := by
  have e := s_vec k s (q.map tV) n (by rw [List.length_map]; omega) (fun x hx => by
    obtain ⟨y, hy, rfl⟩ := List.mem_map.mp hx
    exact vl_tV hp (hq y hy))
  rw [List.length_map, decide_eq_false h] at e
  exact e
def wrongs (p : Pt) : List PV := [.non, .tup (p.map tV ++ [.tup [.int 1, .int 1]]), .tup ((p.map tV).drop 1), .lst (p.map tV), .tup ((p.map tV).dropLast ++ [.tup [.int 2, .int 2]]), .tup ((p.map tV).dropLast ++ [.tup [.int 1, .int 0]]), .tup ((p.map tV).dropLast ++ [.tup [.int 1, .int (-1)]]), .tup ((p.map tV).dropLast ++ [.int 1]), .tup ((p.map tV).dropLast ++ [.tup [.bl true, .int 1]])]
theorem wrong_vec (k : Nat) (s : Store) {p : Pt} (hp : OkP p) (h1 : 1 ≤ p.length) : ∀ w ∈ wrongs p, w ≠ .und ∧ callF lt.T (k + 4) "is_vector" [w, ii p.length] s = .ok (.bl false) s := by
  have hl := hp.len
  have dl : (p.map tV).dropLast = p.dropLast.map tV := by rw [List.map_dropLast]
  have dm : ∀ x ∈ p.dropLast, x ∈ p := fun x hx => (List.dropLast_sublist p).subset hx
  have dn : p.dropLast.length ≤ 4 := by rw [List.length_dropLast]; omega
  intro w hw
  simp only [wrongs, List.mem_cons, List.not_mem_nil, or_false] at hw
  rcases hw with rfl | rfl | rfl | rfl | rfl | rfl | rfl | rfl | rfl
  · exact ⟨(by intro z; cases z), s_vec_x k s .non p.length (by intro z; cases z) rfl⟩
  · exact ⟨(by intro z; cases z), vec_app k s hp p (fun x h => h) hl _ (vl_ab s 1 1 (by decide) (by decide)) _ (.inl (by omega))⟩
  · refine ⟨(by intro z; cases z), ?_⟩
    rw [← List.map_drop]
    exact vec_short k s hp (p.drop 1) (fun x h => List.mem_of_mem_drop h) (by rw [List.length_drop]; omega) _ (by rw [List.length_drop]; omega)
  · exact ⟨(by intro z; cases z), s_vec_x k s (.lst (p.map tV)) p.length (by intro z; cases z) rfl⟩
  · refine ⟨(by intro z; cases z), ?_⟩
    rw [dl]
    exact vec_app k s hp _ dm dn _ (vl_ab s 2 2 (by decide) (by decide)) _ (.inr (by decide +kernel))
  · refine ⟨(by intro z; cases z), ?_⟩
    rw [dl]
    exact vec_app k s hp _ dm dn _ (vl_ab s 1 0 (by decide) (by decide)) _ (.inr (by decide +kernel))
  · refine ⟨(by intro z; cases z), ?_⟩
    rw [dl]
    exact vec_app k s hp _ dm dn _ (vl_ab s 1 (-1) (by decide) (by decide)) _ (.inr (by decide +kernel))
  · refine ⟨(by intro z; cases z), ?_⟩
    rw [dl]
    exact vec_app k s hp _ dm dn _ (vl_one s) _ (.inr rfl)
  · refine ⟨(by intro z; cases z), ?_⟩
    rw [dl]
    exact vec_app k s hp _ dm dn _ (vl_b1 s) _ (.inr rfl)
end K55

/-! k55: one turn of the law. -/
namespace K55
open PySem L2 TL SX MP
abbrev RF : ISs := .cons (.ret (.bl false)) .nil
def wrE : IE := .lst false (.cons .non (.cons (.bin false .add (.var 9) (.tup (.cons (.tup (.cons (.int 1) (.cons (.int 1) .nil))) .nil))) (.cons (.sli false (.var 9) (.so (.int 1)) .no) (.cons (.blt false .list1 (.cons (.var 9) .nil)) (.cons (.bin false .add (.sli false (.var 9) .no (.so (.neg (.int 1)))) (.tup (.cons (.tup (.cons (.int 2) (.cons (.int 2) .nil))) .nil))) (.cons (.bin false .add (.sli false (.var 9) .no (.so (.neg (.int 1)))) (.tup (.cons (.tup (.cons (.int 1) (.cons (.int 0) .nil))) .nil))) (.cons (.bin false .add (.sli false (.var 9) .no (.so (.neg (.int 1)))) (.tup (.cons (.tup (.cons (.int 1) (.cons (.neg (.int 1)) .nil))) .nil))) (.cons (.bin false .add (.sli false (.var 9) .no (.so (.neg (.int 1)))) (.tup (.cons (.int 1) .nil))) (.cons (.bin false .add (.sli false (.var 9) .no (.so (.neg (.int 1)))) (.tup (.cons (.tup (.cons (.bl true) (.cons (.int 1) .nil))) .nil))) .nil)))))))))
def wrB : ISs := .cons (.ife (.nt (.blt false (.isC "BadInput") (.cons (.caught "NetError" (.call "whole_cells" (.cons (.var 8) (.cons (.var 7) .nil)))) .nil))) RF .nil)
    (.cons (.ife (.nt (.blt false (.isC "BadInput") (.cons (.caught "NetError" (.call "ran_whole" (.cons (.var 8) (.cons (.var 7) .nil)))) .nil))) RF .nil) .nil)
theorem sub_bi : lt.T.sub "BadInput" "BadInput" = some true := by rfl
theorem sub_ne : lt.T.sub "BadInput" "NetError" = some true := by rfl
theorem tup2_V {C : Calls} {a b : IE} {env : MP.Env} {s s1 s2 : Store} {x y : PV} (ha : ev C a env s = .ok x s1) (hb : ev C b env s1 = .ok y s2) : ev C (.tup (.cons a (.cons b .nil))) env s = .ok (.tup [x, y]) s2 := tup_V (es2 ha hb) (show 2 ≤ 16777216 by decide)
theorem tup1_V {C : Calls} {a : IE} {env : MP.Env} {s s1 : Store} {x : PV} (ha : ev C a env s = .ok x s1) : ev C (.tup (.cons a .nil)) env s = .ok (.tup [x]) s1 := tup_V (es1 ha) (show 1 ≤ 16777216 by decide)
theorem wr_V {C : Calls} {env : MP.Env} {s : Store} {p : Pt} (hp : p.length ≤ 4) (h : env[9]? = some (ptV p)) : ev C wrE env s = .ok (.lst (wrongs p)) s := by
  have v9 : ev C (.var 9) env s = .ok (.tup (p.map tV)) s := v_tup h
  have dl : ev C (.sli false (.var 9) .no (.so (.neg (.int 1)))) env s = .ok (.tup (p.map tV).dropLast) s := sliT_V v9 o_no (o_so (neg_V int_V)) cut_last
  have n1 : (p.map tV).length + 1 ≤ 16777216 := by rw [List.length_map]; omega
  have n2 : (p.map tV).dropLast.length + 1 ≤ 16777216 := by rw [List.length_dropLast, List.length_map]; omega
  refine lst_V (es_c non_V (es_c (addT_V v9 (tup1_V (tup2_V int_V int_V)) n1) (es_c (sliT_V v9 (o_so (int_V (k := ((1 : Nat) : Int)))) o_no (cut_from 1)) (es_c (blt1_V v9 rfl) (es_c (addT_V dl (tup1_V (tup2_V int_V int_V)) n2) (es_c (addT_V dl (tup1_V (tup2_V int_V int_V)) n2) (es_c (addT_V dl (tup1_V (tup2_V int_V (neg_V int_V))) n2) (es_c (addT_V dl (tup1_V int_V) n2) (es_c (addT_V dl (tup1_V (tup2_V bl_V int_V)) n2) es0))))))))) (show 9 ≤ 16777216 by decide)
theorem wr_loop (k : Nat) (s : Store) (c : Code) (h : OkC c) (x0 x1 x2 x3 x4 x5 x6 x9 x10 x11 x12 x13 x14 x15 : PV) : ∀ (ws : List PV) (x7 : PV), (∀ w ∈ ws, w ≠ .und ∧ callF lt.T (k + 8) "is_vector" [w, ii c.n] s = .ok (.bl false) s) →
    ∃ y7, forLoop (bodyF (callsOf lt.T (k + 11)) (.one 7) wrB) [] ws [x0, x1, x2, x3, x4, x5, x6, x7, codeV c, x9, x10, x11, x12, x13, x14, x15] s = .nx [x0, x1, x2, x3, x4, x5, x6, y7, codeV c, x9, x10, x11, x12, x13, x14, x15] s
  | [], x7, _ => ⟨x7, for_nil rfl⟩
  | w :: ws, x7, hw => by
    obtain ⟨nu, hv⟩ := hw w List.mem_cons_self
    obtain ⟨y7, e⟩ := wr_loop k s c h x0 x1 x2 x3 x4 x5 x6 x9 x10 x11 x12 x13 x14 x15 ws w (fun u hu => hw u (List.mem_cons_of_mem _ hu))
    refine ⟨y7, (for_nx rfl ?_).trans e⟩
    show exs (callsOf lt.T (k + 11)) wrB [x0, x1, x2, x3, x4, x5, x6, w, codeV c, x9, x10, x11, x12, x13, x14, x15] s = _
    have a1 : ev (callsOf lt.T (k + 11)).down (.call "whole_cells" (.cons (.var 8) (.cons (.var 7) .nil))) [x0, x1, x2, x3, x4, x5, x6, w, codeV c, x9, x10, x11, x12, x13, x14, x15] s = .exc BI s := call2_V (v_tup rfl) (ev_v rfl nu) (s_wc_x k s c w h nu hv)
    have a2 : ev (callsOf lt.T (k + 11)).down (.call "ran_whole" (.cons (.var 8) (.cons (.var 7) .nil))) [x0, x1, x2, x3, x4, x5, x6, w, codeV c, x9, x10, x11, x12, x13, x14, x15] s = .exc BI s := call2_V (v_tup rfl) (ev_v rfl nu) (s_rw_x k s c w h nu hv)
    exact ife_Fn (nt_F (isC_V (caught_X a1 sub_ne) sub_bi)) (ife_Fn (nt_F (isC_V (caught_X a2 sub_ne) sub_bi)) nil_N)
def wq1 : IE := .nt (.call "_law_wh_same" (.cons (.callk "whole_cells" .nil (.cons (.var 8) (.cons (.var 9) .nil)) [0, 1]) (.cons (.tup (.cons (.var 12) (.cons (.blt false .tuple1 (.cons (.var 6) .nil)) .nil))) .nil)))
def wq2 : IE := .nt (.call "_law_wh_same" (.cons (.callk "ran_whole" (.cons (.var 8) .nil) (.cons (.var 9) .nil) [0, 1]) (.cons (.blt false .tuple1 (.cons (.comp false (.idx (.var 10) (.var 15)) (.one 15) [15] (.val (.idx (.var 8) (.int 2))) .no) .nil)) .nil)))
def lawB : ISs := .cons (.asg 5 (.bin false .add (.int 1) (.call "_law_draw" (.cons (.var 1) (.cons (.int 3) .nil)))))
    (.cons (.asgt [8, 9] (.tup (.cons (.call "_law_wh_code" (.cons (.var 1) (.cons (.var 5) (.cons (.int 9) .nil)))) (.cons (.call "_law_wh_point" (.cons (.var 1) (.cons (.var 5) .nil))) .nil))))
    (.cons (.asgt [10, 11, 12] (.tup (.cons (.call "_law_wh_values" (.cons (.var 8) (.cons (.var 9) .nil))) (.cons (.call "_law_wh_factors" (.cons (.var 8) .nil)) (.cons (.call "_law_wh_over" (.cons (.var 9) .nil)) .nil)))))
    (.cons (.asg 6 (.lst true .nil))
    (.cons (.for (.many [13, 14]) (.zip (.var 10) (.var 11)) duB)
    (.cons (.ife wq1 RF .nil) (.cons (.ife wq2 RF .nil) (.cons (.for (.one 7) (.val wrE) wrB) .nil)))))))
theorem law_turn (k : Nat) {cs : List Nat} {B : Nat} {r s : Store} (h : St cs B r s) (hr : Flat r) (hB : B + 20000 < 2 ^ 40) (x0 x2 x3 x4 x5 x6 x7 x8 x9 x10 x11 x12 x13 x14 x15 x : PV) :
    ∃ (y5 y6 y7 y8 y9 y10 y11 y12 y13 y14 : PV) (r' s' : Store), bodyF (callsOf lt.T (k + 11)) (.one 2) lawB x [x0, .obj 1, x2, x3, x4, x5, x6, x7, x8, x9, x10, x11, x12, x13, x14, x15] s = .nx [x0, .obj 1, x, x3, x4, y5, y6, y7, y8, y9, y10, y11, y12, y13, y14, x15] s' ∧ St cs (B + 3000) r' s' ∧ Flat r' := by
  obtain ⟨d, s1, hd, h1, e1⟩ := d3 (k + 8) h 3 (by decide) (by decide) (by omega)
  obtain ⟨c, s2, e2, okc, hcn, h2⟩ := s_code (k + 7) h1 hr (1 + d) (by omega) (by omega) (by omega)
  obtain ⟨p, s3, e3, okp, hpn, h3⟩ := s_point (k + 7) h2 hr (1 + d) (by omega) (by omega)
  have hn : p.length = c.n := by rw [hpn, hcn]
  have hD := divP_up okp
  have hcl := cells_len (c := c) hn
  have hfl := facC_len c
  have m9 := okc.m
  have n2 := okc.n2
  have c0 : ev (callsOf lt.T (k + 11)) (.bin false .add (.int 1) (.call "_law_draw" (.cons (.var 1) (.cons (.int 3) .nil)))) [x0, .obj 1, x, x3, x4, x5, x6, x7, x8, x9, x10, x11, x12, x13, x14, x15] s = .ok (ii (1 + d)) s1 := by
    show _ = Res.ok (PV.int ((1 + d : Nat) : Int)) s1
    rw [Int.natCast_add]
    exact add_V int_V (call2_V (v_obj rfl) int_V e1)
  have c1 : ev (callsOf lt.T (k + 11)) (.tup (.cons (.call "_law_wh_code" (.cons (.var 1) (.cons (.var 5) (.cons (.int 9) .nil)))) (.cons (.call "_law_wh_point" (.cons (.var 1) (.cons (.var 5) .nil))) .nil))) [x0, .obj 1, x, x3, x4, ii (1 + d), x6, x7, x8, x9, x10, x11, x12, x13, x14, x15] s1 = .ok (.tup [codeV c, ptV p]) s3 := tup2_V (call3_V (v_obj rfl) (v_int rfl) int_V e2) (call2_V (v_obj rfl) (v_int rfl) e3)
  have c2 : ev (callsOf lt.T (k + 11)) (.tup (.cons (.call "_law_wh_values" (.cons (.var 8) (.cons (.var 9) .nil))) (.cons (.call "_law_wh_factors" (.cons (.var 8) .nil)) (.cons (.call "_law_wh_over" (.cons (.var 9) .nil)) .nil)))) [x0, .obj 1, x, x3, x4, ii (1 + d), x6, x7, codeV c, ptV p, x10, x11, x12, x13, x14, x15] s3 = .ok (.tup [.lst (VL (divP p) (cellsC c p) (facC c)), .lst ((facC c).map ii), ii (divP p)]) s3 :=
    tup_V (es3 (call2_V (v_tup rfl) (v_tup rfl) (s_lv (k + 8) s3 c p okc okp hn)) (call1_V (v_tup rfl) (s_lf (k + 9) s3 c okc)) (call1_V (v_tup rfl) (s_lover (k + 9) s3 p okp))) (show 3 ≤ 16777216 by decide)
  have upx : ∀ z ∈ (cellsC c p).zip (facC c), z.1.natAbs < 2 ^ 1650 ∧ 0 < divP p * z.2 ∧ divP p * z.2 < 2 ^ 167 := fun z hz => by
    have a1 := (List.of_mem_zip hz).1
    have a2 := (List.of_mem_zip hz).2
    exact ⟨cells_up okc okp _ a1, M_up okc okp (facC_up okc _ a2)⟩
  obtain ⟨y13, y14, e4⟩ := du_loop (k + 11) s3 (divP p) hD.2 x0 (.obj 1) x x3 x4 (ii (1 + d)) x7 (codeV c) (ptV p) (.lst (VL (divP p) (cellsC c p) (facC c))) (.lst ((facC c).map ii)) x15 ((cellsC c p).zip (facC c)) [] x13 x14 upx (by rw [List.length_nil, List.length_zip]; omega)
  rw [List.nil_append, zip_fst (by rw [hcl, hfl])] at e4
  have c3 : evit (callsOf lt.T (k + 11)) (.zip (.var 10) (.var 11)) [x0, .obj 1, x, x3, x4, ii (1 + d), .obj s3.length, x7, codeV c, ptV p, .lst (VL (divP p) (cellsC c p) (facC c)), .lst ((facC c).map ii), ii (divP p), x13, x14, x15] (s3 ++ [.lst []]) = .ok ⟨((cellsC c p).zip (facC c)).map fun z => .tup [vq (divP p * z.2) z.1, ii z.2], []⟩ (s3 ++ [.lst []]) := by
    rw [← zip_V]
    exact it_Z (v_lst rfl) (v_lst rfl)
  have hs4 : (s3 ++ [SO.lst ((cellsC c p).map PV.int)])[s3.length]? = some (.lst ((cellsC c p).map .int)) := at_new
  have hcs : ∀ i ∈ cellsC c p, i.natAbs.log2 < 1900 := fun i hi => log_lt (cells_up okc okp i hi) (by decide) (by decide)
  have pl1 : plN 3 (.tup [ii (divP p), .tup ((cellsC c p).map .int)]) = true := pl_tup fun y hy => by
    rcases List.mem_cons.mp hy with rfl | hy
    · exact pl_int (log_lt (m := 121) (by rw [Int.natAbs_natCast]; exact hD.2) (by decide) (by decide))
    · rw [List.mem_singleton.mp hy]
      exact pl_tup (pl_ints hcs)
  have bk1 : (toD (.tup [ii (divP p), .tup ((cellsC c p).map .int)])).bulk ≤ 2000 := by
    simp only [toD, toDs, PyData.bulk, PyData.bulkAll, bulk_ints]
    omega
  have q1 : ∀ (y7 y13 y14 : PV), ev (callsOf lt.T (k + 11)) wq1 [x0, .obj 1, x, x3, x4, ii (1 + d), .obj s3.length, y7, codeV c, ptV p, .lst (VL (divP p) (cellsC c p) (facC c)), .lst ((facC c).map ii), ii (divP p), y13, y14, x15] (s3 ++ [.lst ((cellsC c p).map .int)]) = .ok (.bl false) (s3 ++ [.lst ((cellsC c p).map .int)]) := fun y7 y13 y14 => by
    refine nt_F (call2_V (callk_V es0 (es2 (v_tup rfl) (v_tup rfl)) rfl (s_wc (k + 1) _ c p okc okp hn)) (tup2_V (v_int rfl) (blt1_V (v := .tup ((cellsC c p).map .int)) (v_obj rfl) ?_)) (s_same (k + 10) _ _ pl1 (by decide) rfl bk1))
    show (asSeq (s3 ++ [SO.lst ((cellsC c p).map PV.int)]) (.obj s3.length)).map PV.tup = _
    have : asSeq (s3 ++ [SO.lst ((cellsC c p).map PV.int)]) (.obj s3.length) = some ((cellsC c p).map .int) := by
      show (match (s3 ++ [SO.lst ((cellsC c p).map PV.int)])[s3.length]? with | some (.lst xs) => some xs | _ => none) = _
      rw [hs4]
    rw [this]
    rfl
  have nbo : ∀ o ∈ c.outs, Nb (outC c p o) 1650 167 := fun o ho => by
    have hlt := okc.outs o ho
    have M := M_up okc okp (fac_up okc hlt)
    exact low_nb M.1 (xAt_up (cells_up okc okp) o) M.2
  have pl2 : plN 3 (.tup (c.outs.map fun o => Q (outC c p o))) = true := pl_tup fun y hy => by
    obtain ⟨o, ho, rfl⟩ := List.mem_map.mp hy
    exact log_Q (nbo o ho) (by decide) (by decide) (by decide) (by decide)
  have bk2 : (toD (.tup (c.outs.map fun o => Q (outC c p o)))).bulk ≤ 2000 := by
    have e : (c.outs.map fun o => Q (outC c p o)) = (c.outs.map (outC c p)).map Q := by
      rw [List.map_map]
      rfl
    have := bulk_Qs (c.outs.map (outC c p))
    rw [List.length_map] at this
    have o2 := okc.o2
    rw [e, toD, PyData.bulk]
    omega
  have q2 : ∀ (y7 y13 y14 : PV) (st : Store), ev (callsOf lt.T (k + 11)) wq2 [x0, .obj 1, x, x3, x4, ii (1 + d), .obj s3.length, y7, codeV c, ptV p, .lst (VL (divP p) (cellsC c p) (facC c)), .lst ((facC c).map ii), ii (divP p), y13, y14, x15] st = .ok (.bl false) st := fun y7 y13 y14 st => by
    have cc : ev (callsOf lt.T (k + 11)) (.comp false (.idx (.var 10) (.var 15)) (.one 15) [15] (.val (.idx (.var 8) (.int 2))) .no) [x0, .obj 1, x, x3, x4, ii (1 + d), .obj s3.length, y7, codeV c, ptV p, .lst (VL (divP p) (cellsC c p) (facC c)), .lst ((facC c).map ii), ii (divP p), y13, y14, x15] st = .ok (.lst (c.outs.map fun o => Q (outC c p o))) st := by
      refine (ev_compX (h := ii) (g := fun o => Q (outC c p o)) (live := []) (bx := false) c.outs (it_T (idx_V (v_tup rfl) int_V rfl)) rfl (by have := okc.o2; omega) (fun o ho => ⟨[x0, .obj 1, x, x3, x4, ii (1 + d), .obj s3.length, y7, codeV c, ptV p, .lst (VL (divP p) (cellsC c p) (facC c)), .lst ((facC c).map ii), ii (divP p), y13, y14, ii o], rfl, idx_V (v_lst rfl) (v_int rfl) (idx_Ln ?_)⟩)).trans rfl
      have hlt := okc.outs o ho
      exact vl_at (by rw [hcl]; exact hlt) (by rw [hfl]; exact hlt)
    exact nt_F (call2_V (callk_V (es1 (v_tup rfl)) (es1 (v_tup rfl)) rfl (s_rw (k + 1) _ c p okc okp hn)) (blt1_V cc rfl) (s_same (k + 10) _ _ pl2 (by decide) rfl bk2))
  obtain ⟨y7, e5⟩ := wr_loop k (s3 ++ [.lst ((cellsC c p).map .int)]) c okc x0 (.obj 1) x x3 x4 (ii (1 + d)) (.obj s3.length) (ptV p) (.lst (VL (divP p) (cellsC c p) (facC c))) (.lst ((facC c).map ii)) (ii (divP p)) y13 y14 x15 (wrongs p) x7 (fun w hw => by
    rw [← hn]
    exact wrong_vec (k + 4) _ okp (by omega) w hw)
  refine ⟨ii (1 + d), .obj s3.length, y7, codeV c, ptV p, .lst (VL (divP p) (cellsC c p) (facC c)), .lst ((facC c).map ii), ii (divP p), y13, y14, r ++ [.lst ((cellsC c p).map .int)], s3 ++ [.lst ((cellsC c p).map .int)], ?_, (h3.push _).le (by omega), hr.app (Flat.one (n := 0) (pl_ints hcs))⟩
  show exs (callsOf lt.T (k + 11)) lawB [x0, .obj 1, x, x3, x4, x5, x6, x7, x8, x9, x10, x11, x12, x13, x14, x15] s = _
  exact asg_N c0 (asgt2_N c1 (asgt3_N c2 (asg_N nilB_V (for_N c3 e4 (ife_Fn (q1 _ _ _) (ife_Fn (q2 _ _ _ _) (for_N (it_L (wr_V okp.len rfl)) e5 nil_N)))))))
end K55

/-! k55: the law. -/
namespace K55
open PySem L2 TL SX MP
theorem law_loop (k : Nat) {cs : List Nat} (x0 x3 x4 x15 : PV) : ∀ (items : List PV) (B : Nat) (r s : Store) (x2 x5 x6 x7 x8 x9 x10 x11 x12 x13 x14 : PV), St cs B r s → Flat r → B + 3000 * items.length + 20000 < 2 ^ 40 →
    ∃ (y2 y5 y6 y7 y8 y9 y10 y11 y12 y13 y14 : PV) (s' : Store), forLoop (bodyF (callsOf lt.T (k + 11)) (.one 2) lawB) [] items [x0, .obj 1, x2, x3, x4, x5, x6, x7, x8, x9, x10, x11, x12, x13, x14, x15] s = .nx [x0, .obj 1, y2, x3, x4, y5, y6, y7, y8, y9, y10, y11, y12, y13, y14, x15] s'
  | [], B, r, s, x2, x5, x6, x7, x8, x9, x10, x11, x12, x13, x14, h, hr, hB => ⟨x2, x5, x6, x7, x8, x9, x10, x11, x12, x13, x14, s, for_nil rfl⟩
  | x :: items, B, r, s, x2, x5, x6, x7, x8, x9, x10, x11, x12, x13, x14, h, hr, hB => by
    rw [List.length_cons] at hB
    obtain ⟨y5, y6, y7, y8, y9, y10, y11, y12, y13, y14, r', s1, e1, h1, hr1⟩ := law_turn k h hr (by omega) x0 x2 x3 x4 x5 x6 x7 x8 x9 x10 x11 x12 x13 x14 x15 x
    obtain ⟨z2, z5, z6, z7, z8, z9, z10, z11, z12, z13, z14, s', e⟩ := law_loop k x0 x3 x4 x15 items (B + 3000) r' s1 x y5 y6 y7 y8 y9 y10 y11 y12 y13 y14 h1 hr1 (by omega)
    exact ⟨z2, z5, z6, z7, z8, z9, z10, z11, z12, z13, z14, s', (for_nx rfl e1).trans e⟩
def far : Int := 10000000000000000000000000000000000000000
def great : Code := ⟨1, [.sum [(far, 0)] 1 3, .sum [(far, 1)] 0 7], [2]⟩
def half : Pt := [(1, 2)]
theorem okHalf : OkP half := ⟨by decide, by
  intro n hn
  simp only [half, List.map_cons, List.map_nil, List.mem_singleton] at hn
  subst hn
  exact ⟨by decide, by decide⟩, by
  intro q hq
  rw [List.mem_singleton.mp hq]
  decide, by
  intro q hq
  rw [List.mem_singleton.mp hq]
  decide⟩
theorem okSum {fs : List Nat} {w b : Int} {c f : Nat} (hc : c < fs.length) (hw : w.natAbs < 2 ^ 134) (hb : b.natAbs < 2 ^ 134) (hf : 0 < f ∧ f < 2 ^ 5) : OkR fs (.sum [(w, c)] b f) :=
  ⟨(by intro z; cases z), (fun x hx => by rw [List.mem_singleton.mp hx]; exact hc), (fun x hx => by rw [List.mem_singleton.mp hx]; rfl), List.pairwise_singleton _ _, (show 1 < 64 by decide), List.pairwise_singleton _ _, (fun t ht => by rw [List.mem_singleton.mp ht]; exact hw), hb, hf⟩
theorem okGreat : OkC great where
  n1 := by decide
  n2 := by decide
  m := by decide
  rows := ⟨okSum (by decide) (by decide) (by decide) ⟨by decide, by decide⟩, okSum (by decide) (by decide) (by decide) ⟨by decide, by decide⟩, trivial⟩
  o1 := by decide
  o2 := by decide
  outs := by
    intro o ho
    rw [List.mem_singleton.mp ho]
    decide
theorem out_great : outC great half 2 = lowP (far * far + 2 * far) 42 := by decide +kernel
def fE : IE := .bin false .pow (.int 10) (.int 40)
def gE : IE := .tup (.cons (.int 1) (.cons (.bin false .add (.tup (.cons (.tup (.cons (.str "sum") (.cons (.tup (.cons (.tup (.cons (.var 3) (.cons (.int 0) .nil))) .nil)) (.cons (.int 1) (.cons (.int 3) .nil))))) .nil)) (.tup (.cons (.tup (.cons (.str "sum") (.cons (.tup (.cons (.tup (.cons (.var 3) (.cons (.int 1) .nil))) .nil)) (.cons (.int 0) (.cons (.int 7) .nil))))) .nil))) (.cons (.tup (.cons (.int 2) .nil)) .nil)))
def rE : IE := .cmp .eq (.call "ran_whole" (.cons (.var 4) (.cons (.tup (.cons (.tup (.cons (.int 1) (.cons (.int 2) .nil))) .nil)) .nil))) (.tup (.cons (.call "_law_wn_cut" (.cons (.bin false .add (.bin false .mul (.var 3) (.var 3)) (.bin false .mul (.int 2) (.var 3))) (.cons (.int 42) .nil))) .nil))
def laI : IT := .rng1 (.bin false .add (.int 10) (.blt false .min2 (.cons (.int 50) (.cons (.blt false .len (.cons (.var 0) .nil)) .nil))))
theorem t_law : lt.T.fn "law" = some ⟨1, 16, b_f_law⟩ := by rfl
theorem law_eq : b_f_law = .cons (.asg 1 (.call "_law_begun" (.cons (.var 0) .nil))) (.cons (.for (.one 2) laI lawB) (.cons (.asg 3 fE) (.cons (.asg 4 gE) (.cons (.ret rE) .nil)))) := by rfl
theorem tup4_V {C : Calls} {a b c d : IE} {env : MP.Env} {s : Store} {x y z w : PV} (ha : ev C a env s = .ok x s) (hb : ev C b env s = .ok y s) (hc : ev C c env s = .ok z s) (hd : ev C d env s = .ok w s) : ev C (.tup (.cons a (.cons b (.cons c (.cons d .nil))))) env s = .ok (.tup [x, y, z, w]) s := tup_V (es4 ha hb hc hd) (show 4 ≤ 16777216 by decide)
theorem tup3_V {C : Calls} {a b c : IE} {env : MP.Env} {s : Store} {x y z : PV} (ha : ev C a env s = .ok x s) (hb : ev C b env s = .ok y s) (hc : ev C c env s = .ok z s) : ev C (.tup (.cons a (.cons b (.cons c .nil)))) env s = .ok (.tup [x, y, z]) s := tup_V (es3 ha hb hc) (show 3 ≤ 16777216 by decide)
theorem law_run (k : Nat) (ns : List Int) (hl : ns.length ≤ 63) : ∃ s, exs (callsOf lt.T (k + 11)) b_f_law [.wl (ns.map .int), .und, .und, .und, .und, .und, .und, .und, .und, .und, .und, .und, .und, .und, .und, .und] [] = .rt (.bl true) s := by
  have b0 := s_begun (k + 10) ns (by omega)
  have hst : St (csOf ns) 0 [] (stO (gsOf ns) (csOf ns) 0 0 []) := ⟨gsOf ns, 0, 0, rfl, Nat.le_refl _⟩
  have hmin : ∃ m : Nat, (10 : Int) + (if (ns.length : Int) < 50 then (ns.length : Int) else 50) = (m : Int) ∧ m ≤ 60 := by
    refine ⟨10 + min ns.length 50, ?_, by omega⟩
    split <;> omega
  obtain ⟨m, hm1, hm2⟩ := hmin
  obtain ⟨y2, y5, y6, y7, y8, y9, y10, y11, y12, y13, y14, s1, e1⟩ := law_loop k (cs := csOf ns) (.wl (ns.map .int)) .und .und .und ((List.range m).map fun (j : Nat) => .int (j : Int)) 0 [] _ .und .und .und .und .und .und .und .und .und .und .und hst Flat.nil (by rw [List.length_map, List.length_range]; omega)
  have c1 : ev (callsOf lt.T (k + 11)) (.call "_law_begun" (.cons (.var 0) .nil)) [.wl (ns.map .int), .und, .und, .und, .und, .und, .und, .und, .und, .und, .und, .und, .und, .und, .und, .und] [] = .ok (.obj 1) (stO (gsOf ns) (csOf ns) 0 0 []) := call1_V (v_wl rfl) b0
  have c2 : evit (callsOf lt.T (k + 11)) laI [.wl (ns.map .int), .obj 1, .und, .und, .und, .und, .und, .und, .und, .und, .und, .und, .und, .und, .und, .und] (stO (gsOf ns) (csOf ns) 0 0 []) = .ok ⟨(List.range m).map fun (j : Nat) => .int (j : Int), []⟩ (stO (gsOf ns) (csOf ns) 0 0 []) := by
    refine it_R ?_ (by omega)
    rw [← hm1]
    have el : ev (callsOf lt.T (k + 11)) (.blt false .len (.cons (.var 0) .nil)) [.wl (ns.map .int), .obj 1, .und, .und, .und, .und, .und, .und, .und, .und, .und, .und, .und, .und, .und, .und] (stO (gsOf ns) (csOf ns) 0 0 []) = .ok (.int (ns.length : Nat)) (stO (gsOf ns) (csOf ns) 0 0 []) := by
      have q := lenS_V (C := callsOf lt.T (k + 11)) (a := .var 0) (env := [.wl (ns.map .int), .obj 1, .und, .und, .und, .und, .und, .und, .und, .und, .und, .und, .und, .und, .und, .und]) (s := stO (gsOf ns) (csOf ns) 0 0 []) (xs := ns.map .int) (v_wl rfl) (by intro q z; cases z) rfl
      rw [List.length_map] at q
      exact q
    exact add_V int_V (blt2_V int_V el rfl)
  have c3 : ∀ (env : MP.Env) (s : Store), ev (callsOf lt.T (k + 11)) fE env s = .ok (.int far) s := fun env s => pow_V int_V (int_V (k := ((40 : Nat) : Int))) (by decide) (by decide) (by decide)
  have c4 : ∀ (env : MP.Env) (s : Store), env[3]? = some (.int far) → ev (callsOf lt.T (k + 11)) gE env s = .ok (codeV great) s := fun env s h3 =>
    tup3_V int_V (addT_V (tup1_V (tup4_V str_V (tup1_V (tup2_V (v_int h3) int_V)) int_V int_V)) (tup1_V (tup4_V str_V (tup1_V (tup2_V (v_int h3) int_V)) int_V int_V)) (show 1 + 1 ≤ 16777216 by decide)) (tup1_V int_V)
  have nbo : Nb (outC great half 2) 1650 167 := by
    have hlt : 2 < great.n + great.rows.length := by decide
    have M := M_up okGreat okHalf (fac_up okGreat hlt)
    exact low_nb M.1 (xAt_up (cells_up okGreat okHalf) 2) M.2
  have pl : plN 3 (.tup [Q (outC great half 2)]) = true := pl_tup fun y hy => by
    rw [List.mem_singleton.mp hy]
    exact log_Q nbo (by decide) (by decide) (by decide) (by decide)
  have c5 : ∀ (env : MP.Env) (s : Store), env[3]? = some (.int far) → env[4]? = some (codeV great) → ev (callsOf lt.T (k + 11)) rE env s = .ok (.bl true) s := fun env s h3 h4 => by
    have r1 := s_rw (k + 1) s great half okGreat okHalf rfl
    have r2 := s_cut (k + 10) s (far * far + 2 * far) 42 (by decide) (by decide)
    rw [← out_great] at r2
    exact cmp_V (call2_V (v_tup h4) (tup1_V (tup2_V int_V int_V)) r1) (tup1_V (call2_V (add_V (mul_V (v_int h3) (v_int h3) (by decide +kernel)) (mul_V int_V (v_int h3) (by decide +kernel))) int_V r2)) (eq_same pl (by decide))
  refine ⟨s1, ?_⟩
  rw [law_eq]
  exact asg_N c1 (for_N c2 e1 (asg_N (c3 _ _) (asg_N (c4 _ _ rfl) (ret_V (c5 _ _ rfl rfl)))))
theorem law_ok (k : Nat) (ns : List Int) (hl : ns.length ≤ 63) : ∃ s, callF lt.T (k + 12) "law" [.wl (ns.map .int)] [] = .ok (.bl true) s := by
  obtain ⟨s1, hrun⟩ := law_run k ns hl
  obtain ⟨s3, hs3⟩ := hb_bl [] true s1
  exact ⟨s3, (call_rt (k := k + 11) (vs := [.wl (ns.map .int)]) t_law rfl hrun).trans hs3⟩
theorem holds : LRow.Holds := K55.walk 12 (by decide) (fun ns h _ => law_ok 0 ns h)
end K55

theorem PySem.Challenge.cw_sureweights_k55_runs_of_code_holds : PySem.Challenge.rw_sureweights_k55_runs_of_code.Holds := by
  exact K55.holds
