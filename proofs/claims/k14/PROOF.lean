import PyProof.Rows.All
import PyProof.CollectStr
import PyProof.ListCopy
import HandS.List
import HandS.More
import PyProof.P3Eq
import KE.KEqDict
import KE.KEqNest
import HandS.Deep
import HandS.TupAny
import HandS.FStr
import HandS.IsInst
import HandS.ForMost
import HandS.Walk
import HandS.Wide
import HandS.Zip0
import HandS.TupMul
import PyProof.Draws
import PyProof.EnumMake
import KE.KDictPairs
import PyProof.ReprReads
import HandS.Call
import PyProof.NeKinds
import HandS.Text
import HandS.Small
import HandS.Style
import HandS.Strs
import HandS.Set
import HandS.Defaults
import HandS.Property
import HandS.Ends
import HandS.EndBits
import HandS.HeadEnd
import HandS.HeadHook2
import HandS.Head0
import HandS.Head1
import HandS.Head2
import HandS.HeadHook1
import HandS.HeadHook3
import KE.KStateDown
import PySem.Challenge.RW_biddingmoves_k14_whole_wins_within_moves
set_option Elab.async false
section
set_option linter.all false
set_option maxRecDepth 100000
set_option maxHeartbeats 4000000
set_option autoImplicit false
/-! RfLst: list(text). -/
namespace RF
open PySem PySem.Spec L2
open PyProof.Rows hiding St
section
variable {prog : Program} {w : World} {A : Around} {E : Value → Shared → Prop} {s : Shared}
theorem extend_str {R : Result → Shared → Prop} (hh : A.handled = none) (Z : Addr) (res : Value) (c₀ : Nat) (x : Str) (t : Tok)
    (hZ : s.heap.get? Z = some { cls := .type "list", data := .seq #[] c₀ })
    (hR : ∀ h' tk acc' c', (∀ b o, b ≠ Z → s.heap.get? b = some o → h'.get? b = some o) → h'.get? Z = some { cls := .type "list", data := .seq acc' c' } → ItemsOf (SignAt x) acc' x.cps.size → R (.ok (.ret res)) { s with heap := h', toks := tk }) (hn : x.cps.size ≤ sizeLine) :
    wpAny (model prog w) A.in1 (Builtin.List.listExtendWith (.ref Z) (.str x t) res)
      (fun fin s' => match fin with | .done f => R (.ok f) s' | .again c' => c'.quiet = true ∧ codeAny (model prog w) A c' R s') (fun e s' => R (.error e) s') s := by
  unfold Builtin.List.listExtendWith
  refine wpAny_bind (wpAny_typeOf (T := "str") (v := .str x t) rfl ?_)
  have h1 : Builtin.List.listSameRef (.ref Z) (.str x t) = false := rfl
  have h2 : (Value.type "str" == Value.type "list") = false := by decide
  have h3 : (Value.type "str" == Value.type "tuple") = false := by decide
  simp only [h1, h2, h3, Bool.or_false, Bool.false_eq_true, if_false]
  refine wpAny_bind (wpAny_pyIter_str fun o St W hst => ?_)
  refine wpAny_bind (wpAny_holding ?_)
  unfold Builtin.List.listLengthHint
  refine wpAny_bind (wpAny_specialOf (T := "str") (v := .str x t) rfl F.str_len ?_)
  wp_delta
  refine wpAny_bind (wpAny_isInstance (T := "str") (v := .str x t) (b := true) rfl (by rw [isSubtype_type]; kernel_rfl) ?_)
  show wpAny _ A.in1 (typeOf (Value.str x t) >>= _) _ _ _
  refine wpAny_bind (wpAny_typeOf (T := "str") (v := .str x t) rfl ?_)
  refine wpAny_pure ?_
  rw [if_neg (by decide)]
  have hlt := Heap.lt_size hZ
  have hSf : Z ∉ [s.heap.objs.size] := fun hm => by rw [List.mem_singleton.mp hm] at hlt; exact absurd hlt (Nat.lt_irrefl _)
  have hS : (s.heap.push o).get? Z = some { cls := .type "list", data := .seq #[] c₀ } := Heap.get?_push_of_some _ hZ
  refine wpAny_pure ⟨plainId_quiet F.plain_extend_loop _, codeAny_extend_loopS (W A.in1 hh).toS hn _ hSf _ x.cps.size 0 _ _ _ rfl (Nat.zero_le _) hst hS (ItemsOf.nil _) fun s' acc' c' hm hS' hacc => ?_⟩
  obtain ⟨h', g', d', tk', os'⟩ := s'
  have eg : g' = s.gens := hm.gens
  have ed : d' = s.drawn := hm.drawn
  have eo : os' = s.os := hm.os
  subst eg; subst ed; subst eo
  refine hR h' tk' acc' c' (fun b ob hb e => hm.heap b ob (fun hb' => ?_) (Heap.get?_push_of_some _ e)) hS' hacc
  rcases List.mem_cons.mp hb' with h | h
  · exact hb h
  · have := Heap.lt_size e
    rw [List.mem_singleton.mp h] at this
    exact absurd this (Nat.lt_irrefl _)
theorem list_init_str {R : Result → Shared → Prop} (hh : A.handled = none) (Z : Addr) (x : Str) (t : Tok)
    (hZ : s.heap.get? Z = some { cls := .type "list", data := .seq #[] })
    (hR : ∀ h' tk acc' c', (∀ b o, b ≠ Z → s.heap.get? b = some o → h'.get? b = some o) → h'.get? Z = some { cls := .type "list", data := .seq acc' c' } → ItemsOf (SignAt x) acc' x.cps.size → R (.ok (.ret .none)) { s with heap := h', toks := tk }) (hn : x.cps.size ≤ sizeLine) :
    wpAny (model prog w) A.in1 (Builtin.«list.__init__» ⟨[.ref Z, .str x t], []⟩)
      (fun fin s' => match fin with | .done f => R (.ok f) s' | .again c' => c'.quiet = true ∧ codeAny (model prog w) A c' R s') (fun e s' => R (.error e) s') s := by
  show wpAny _ A.in1 (do let old ← Builtin.List.listItems (.ref Z); Builtin.List.listUpdate (.ref Z) (fun _ => #[]); letGo old.toList.reverse; Builtin.List.listExtendWith (.ref Z) (.str x t) .none) _ _ s
  refine wpAny_bind ?_
  unfold Builtin.List.listItems
  refine wpAny_bind (wpAny_seqItems hZ rfl (wpAny_pure ?_))
  show wpAny _ A.in1 (updateSeq Z (fun _ => #[]) >>= fun _ => letGo (#[] : Array Value).toList.reverse >>= fun _ => Builtin.List.listExtendWith (.ref Z) (.str x t) .none) _ _ s
  refine wpAny_bind (wpAny_updateSeq hZ rfl ?_)
  have hS₂ := Heap.get?_update_self (Obj.mapSeq (fun _ => (#[] : Array Value))) hZ rfl
  refine wpAny_bind (wpAny_letGo ?_)
  exact extend_str hh Z .none _ x t hS₂ (fun h' tk acc' c' k hz ha => hR h' tk acc' c' (fun b o hb e => k b o hb ((Heap.get?_update_other _ _ (Ne.symm hb)).trans e)) hz ha) hn
theorem call_list_str {Q : Value → Shared → Prop} (hh : A.handled = none) (x : Str) (t : Tok) (hn : x.cps.size ≤ sizeLine)
    (hQ : ∀ h' tk acc' c', (∀ b o', s.heap.get? b = some o' → h'.get? b = some o') → h'.get? s.heap.objs.size = some { cls := .type "list", dict := none, data := .seq acc' c', slots := #[] } → ItemsOf (SignAt x) acc' x.cps.size → Q (.ref s.heap.objs.size) { s with heap := h', toks := tk }) :
    wpAny (model prog w) A (call (.type "list") [.str x t]) Q E s := by
  refine callType_codes (Q₁ := fun obj s₁ => obj = .ref s.heap.objs.size ∧ s₁ = { s with heap := s.heap.push { cls := .type "list", data := .seq #[] } }) PySem.F.called_list (PySem.F.typeCall_list_1 _) PySem.F.entry_list_init
    (code_list_new _ ⟨rfl, rfl⟩) fun obj s₁ h₁ => ?_
  obtain ⟨rfl, rfl⟩ := h₁
  have hS : (s.heap.push { cls := .type "list", data := .seq #[] }).get? s.heap.objs.size = some { cls := .type "list", data := .seq #[] } := Heap.get?_push_size _ rfl
  refine ⟨⟨_, hS, rfl⟩, PySem.F.args_list_init_2 _ _, list_init_str (A := A.in1) hh _ x t hS (fun h' tk acc' c' hk hS' hacc => ?_) hn⟩
  exact ⟨rfl, hQ h' tk acc' c' (fun b o e => hk b o (Nat.ne_of_lt (Heap.lt_size e)) (Heap.get?_push_of_some _ e)) hS' hacc⟩
end
section
variable {X : Cx}
theorem vals_at : ∀ {xs : List V} {us : List Value}, us.length = xs.length → (∀ (i : Nat) (x : V) (u : Value), xs[i]? = some x → us[i]? = some u → RelV x u) → Vals xs us
  | [], [], _, _ => .nil
  | x :: xs, u :: us, hl, h => .cons (h 0 x u rfl rfl) (vals_at (by simpa using hl) fun i a b ha hb => h (i + 1) a b (by simpa using ha) (by simpa using hb))
theorem vals_signs (z : Str) (us : List Value) (hl : us.length = z.cps.toList.length) (h : ∀ i v, us[i]? = some v → SignAt z i v) : Vals (z.cps.toList.map fun c => V.str ⟨#[c]⟩) us := by
  refine vals_at (by simpa using hl) fun i x u hx hu => ?_
  obtain ⟨c, t, h1, rfl⟩ := h i u hu
  rw [List.getElem?_map, Array.getElem?_toList, h1] at hx
  cases hx
  exact ⟨t, rfl⟩
/-- list(text) -/
theorem call_list_strX (hc : X.calm = true) : CallR X (.type "list") (fun xs H Q => ∃ z : Str, xs = [.str z] ∧ z.length ≤ sizeLine ∧ ∀ l, H l = none → Q (.ref l) (upd H l (.lst (z.cps.toList.map fun c => V.str ⟨#[c]⟩)))) := by
  intro pins s σ H xs us Q I r h
  obtain ⟨z, rfl, hz, q⟩ := h
  obtain ⟨u, rfl, rx⟩ := vals1 r
  obtain ⟨t, rfl⟩ := rx
  refine call_list_str (I.ok.hd hc) z t hz fun h' tk acc' c' kp e ha => ?_
  have hv : Vals (z.cps.toList.map fun c => V.str ⟨#[c]⟩) acc'.toList := by
    refine vals_signs z acc'.toList (by rw [Array.length_toList, ha.1]; simp) fun i v hv => ?_
    exact ha.2 i v (by rw [← Array.getElem?_toList]; exact hv)
  exact ⟨.ref s.heap.objs.size, _, I.laid (t' := tk) kp (Nat.le_refl _) (show ObjOk X.prog X.w _ h' _ (.lst _) from ⟨by rw [List.length_map, Array.length_toList]; exact hz, acc'.toList, c', hv, by simpa using e⟩), rfl, q _ (I.hok.fresh (Nat.le_refl _))⟩
end
end RF
end
section
set_option linter.all false
set_option maxRecDepth 100000
set_option maxHeartbeats 4000000
set_option autoImplicit false
/-! RfSrtT: sorted of a tuple of texts. -/
namespace RF
open PySem PySem.Spec L2
open PyProof.Rows hiding St
section
variable {P : Program} {w : World} {A : Around} {E : Value → Shared → Prop} {s : Shared}
theorem collect_tupT {l : Addr} {vs : List Value} {Q : List Value → Shared → Prop} (hl : IsTup s.heap l vs.toArray)
    (h : Q vs { s with heap := (s.heap.push (seqObj "list" #[] 0)).update s.heap.objs.size (Obj.mapSeq (· ++ vs.toArray)) }) (hsz : vs.length ≤ sizeLine) :
    wpAny (model P w) A (collect (.ref l)) Q E s := by
  obtain ⟨o, ho, hc, n, hd⟩ := id hl
  unfold collect
  refine wpAny_bind (wpAny_runValue (codeAny_builtin entry_proto_collect' ?_))
  show wpAny _ _ (do again (.builtin "list.__iadd__" ⟨[← newList [], .ref l], []⟩)) _ _ s
  refine wpAny_bind (wpAny_newList (wpAny_pure ⟨Code.quiet_builtin _ (by decide +kernel), codeAny_builtin entry_list_iadd' ?_⟩))
  show wpAny _ _ (Builtin.List.listExtendWith (.ref s.heap.objs.size) (.ref l) (.ref s.heap.objs.size)) _ _ { s with heap := s.heap.push (seqObj "list" #[] 0) }
  unfold Builtin.List.listExtendWith
  have ho' : (s.heap.push (seqObj "list" #[] 0)).get? l = some o := Heap.get?_push_of_some _ ho
  refine wpAny_bind (wpAny_typeOf (T := "tuple") ⟨o, ho', hc⟩ ?_)
  have ht : (Value.type "tuple" == Value.type "tuple") = true := by rfl
  rw [if_pos (by rw [ht]; simp)]
  refine wpAny_bind (listItems_at ho' hd ?_)
  refine wpAny_bind (listItems_at (xs := #[]) (n := 0) (Heap.get?_push_size _ rfl) rfl ?_)
  rw [if_neg (by simp)]
  refine wpAny_bind (listUpdate_at (xs := #[]) (n := 0) (Heap.get?_push_size _ rfl) rfl ?_ (Nat.zero_le _) (by show (#[] ++ vs.toArray).size ≤ sizeLine + 1; simp only [Array.size_append, List.size_toArray, List.length_nil]; omega))
  refine wpAny_pure ?_
  show wpAny (model P w) A (do
      let o ← load s.heap.objs.size
      match o.data with
      | .seq xs _ => pure xs.toList
      | _ => unsupported "internal:collect") Q E { s with heap := (s.heap.push (seqObj "list" #[] 0)).update s.heap.objs.size (Obj.mapSeq (· ++ vs.toArray)) }
  refine wpAny_bind (wpAny_load (get?_update_seq (Heap.get?_push_size _ rfl) _) ?_)
  show wpAny _ _ (pure ((#[] : Array Value) ++ vs.toArray).toList) Q E _
  rw [show ((#[] : Array Value) ++ vs.toArray).toList = vs by simp]
  exact wpAny_pure h
theorem sorted_tup_strs {l : Addr} {vs : List Value} {ss : List Str} {Q : Value → Shared → Prop} (hl : IsTup s.heap l vs.toArray) (hS : StrsAre vs ss) (h64 : vs.length < 64)
    (h : ∀ (out : Array Value) (ss' : List Str), StrsAre out.toList ss' → ss'.Perm ss → sortedS ss' = true → Q (.ref (s.heap.objs.size + 1)) { s with heap := sortedAll s.heap vs out }) :
    wpAny (model P w) A (call (.builtin "sorted") [.ref l]) Q E s := by
  refine Calls.call_function_entry kind_sorted plain_sorted entry_sorted (args_sorted1 _) ?_
  unfold Builtin.«sorted»
  refine wpAny_bind (m := checkCount "sorted" 1 1 _) (wpAny_pure ?_)
  refine wpAny_bind (collect_tupT hl ?_ (by rw [sizeLine_eq]; omega))
  refine wpAny_bind (wpAny_newList ?_ (by rw [sizeLine_eq]; omega))
  have hsz : ((s.heap.push (seqObj "list" #[] 0)).update s.heap.objs.size (Obj.mapSeq (· ++ vs.toArray))).objs.size = s.heap.objs.size + 1 := by
    rw [Heap.size_update, size_push']
  have hoL : (((s.heap.push (seqObj "list" #[] 0)).update s.heap.objs.size (Obj.mapSeq (· ++ vs.toArray))).push (seqObj "list" vs.toArray 0)).get? (s.heap.objs.size + 1) = some (seqObj "list" vs.toArray 0) := by
    rw [← hsz]; exact Heap.get?_push_size _ rfl
  show wpAny _ _ _ _ _ { s with heap := ((s.heap.push (seqObj "list" #[] 0)).update s.heap.objs.size (Obj.mapSeq (· ++ vs.toArray))).push (seqObj "list" vs.toArray 0) }
  rw [hsz]
  refine wpAny_bind (wpAny_holding (wpAny_call_entry slot_list_sort ⟨_, hoL, rfl⟩ entry_list_sort (list_sort_treeK strKind_oneLt hoL hS.keysOf (fun v₁ v₂ rest e => keyKind_strs (by rw [← e]; exact hS)) h64 fun st' hp hs => ⟨_, rfl, ?_⟩) (args_list_sort _)))
  obtain ⟨ss', h1, h2, h3⟩ := sorted_out_str hS hp hs
  exact wpAny_pure ⟨_, rfl, h _ ss' h1 h2 h3⟩
end
section
variable {X : Cx}
def rSortedT (K : PySem.W.Frag) : List V → Hp → VK → Prop := fun vs H Q => ∃ (a : Addr) (xs : List Str), vs = [V.ref a] ∧ SqT K H a (xs.map V.str) ∧ xs.length < 64 ∧
  ∀ (ys : List Str) (p : Addr), ys.Perm xs → sortedS ys = true → H p = none → Q (.ref p) (upd H p (.lst (ys.map V.str)))
theorem cr_sortedT : CallR X (.builtin "sorted") (rSortedT X.K) := by
  intro pins s σ H vs us Q I r h
  obtain ⟨a, xs, rfl, hs, h64, q⟩ := h
  obtain ⟨its, rv, hl, _⟩ := I.tuple hs
  rw [Vals.ref1 r]
  have hlen0 := rv.length
  rw [List.length_map] at hlen0
  refine sorted_tup_strs hl rv.strs (by rw [← hlen0]; exact h64) fun out ys h1 h2 h3 => ?_
  obtain ⟨ep, he'⟩ := PyProof.Rows.sortedAll_at s.heap its out
  have hlen : (ys.map V.str).length ≤ sizeLine := by rw [List.length_map, h2.length_eq]; exact small64 h64
  exact ⟨.ref _, upd H (s.heap.objs.size + 1) (.lst (ys.map V.str)), I.laid (t' := s.toks) (fun _ _ => PyProof.Rows.sortedAll_old) (Nat.le_succ _) ⟨hlen, out.toList, ep, vals_of_strs h1, he'⟩, rfl, q ys _ h2 h3 (I.hok.fresh (Nat.le_succ _))⟩
end
end RF
end
section
set_option linter.all false
set_option maxRecDepth 100000
set_option maxHeartbeats 4000000
set_option autoImplicit false
/-! RfTup: tuples that are known to their object: no dict of their own. What makes tuples, once more; dict of a tuple. -/
namespace RF
open PySem PySem.Spec L2
open PyProof.Rows hiding St
def tupO (us : List Value) : Obj := { cls := .type "tuple", data := .seq us.toArray }
def TupP (H : Hp) (a : Addr) (xs : List V) : Prop := ∃ o, H a = some (.frz o (.tup xs)) ∧ o.dict = none
def PTu (K : PySem.W.Frag) (H : Hp) (a : Addr) (xs : List V) : Prop :=
  TupP H a xs ∨ ∃ (o : Obj) (us : Array Value) (n : Nat), K.lookup a = some o ∧ o.cls = .type "tuple" ∧ o.dict = none ∧ o.data = .seq us n ∧ us.size ≤ sizeLine ∧ Vals xs us.toList
theorem PTu.sqT {K : PySem.W.Frag} {H : Hp} {a : Addr} {xs : List V} (h : PTu K H a xs) : SqT K H a xs := by
  rcases h with ⟨o, h, _⟩ | ⟨o, us, n, h1, h2, _, h3, h4, h5⟩
  · exact .inl (.inr ⟨o, h⟩)
  · exact .inr ⟨o, us, n, h1, h2, h3, h4, h5⟩
/-- a new tuple -/
def NewTup (H : Hp) (Q : VK) (xs : List V) : Prop := ∀ p o, H p = none → o.dict = none → Q (.ref p) (L2.upd H p (.frz o (.tup xs)))
section
variable {X : Cx} {pins : List (Addr × Obj)} {σ : L2.St} {H : Hp} {s : Shared} {Q : VK} {xs : List V} {us : List Value} {h1 : Heap} {tk : Tok}
theorem Inv.newTup (I : Inv X pins σ H s) (hz : xs.length ≤ sizeLine) (r : Vals xs us) (k : ∀ b u, s.heap.get? b = some u → h1.get? b = some u) {p : Addr} (hp : s.heap.objs.size ≤ p) (e : h1.get? p = some (tupO us)) (q : NewTup H Q xs) : EP X pins σ Q (.ref p) { s with heap := h1, toks := tk } := by
  refine ⟨.ref p, L2.upd H p (.frz (tupO us) (.tup xs)), I.laid k hp ?_, rfl, q _ _ (I.hok.fresh hp) rfl⟩
  exact ⟨e, hz, us, r, _, e, rfl, 0, rfl⟩
theorem pe_tupF {es : List Expr} {t : TA} {x1 : Nat} {pos : Pos} (h : PA X es t) : PE X (.Tuple es x1 pos) (fun σ H Q => t σ H fun xs H1 => xs.length ≤ sizeLine ∧ NewTup H1 Q xs) := by
  refine ⟨fun pins s σ H Q I hq => wpAny_Tuple_spliced (thn (h.run pos pins s σ H _ I hq) fun us s1 ⟨xs, H1, I1, r, z, q⟩ => ⟨by rw [← r.length]; exact z, ?_⟩)⟩
  exact Inv.newTup (tk := s1.toks) I1 z r (fun b u e => Heap.get?_push_of_some _ e) (Nat.le_refl _) (Heap.get?_push_size _ rfl) q
theorem call_tupF : CallR X (.type "tuple") (fun xs H Q => ∃ p ys, xs = [.ref p] ∧ ((SqL X.K H p ys ∧ NewTup H Q ys) ∨ (SqT X.K H p ys ∧ Q (.ref p) H))) := by
  intro pins s σ H xs us Q I r ⟨p, ys, e, z⟩
  subst e
  rcases z with ⟨hq, q⟩ | ⟨hq, q⟩
  · obtain ⟨u, rfl, rx⟩ := vals1 r
    cases rx
    obtain ⟨its, r1, pl, hz⟩ := I.list hq
    have hlen := r1.length
    refine call_tuple_list pl.isList (fun h2 kp => ?_) (by simp only [List.size_toArray] <;> omega)
    have I1 : Inv X pins σ H { s with heap := h2 } := I.kept (t' := s.toks) kp
    exact Inv.newTup (tk := s.toks) I1 hz r1 (fun b u e => Heap.get?_push_of_some _ e) (Nat.le_refl _) (Heap.get?_push_size _ rfl) q
  · exact call_tuple_of pins s σ H _ us Q I r ⟨p, ys, rfl, .inr ⟨hq, q⟩⟩
theorem call_divF : CallR X (.builtin "divmod") (fun xs H Q => ∃ i j, xs = [.int i, .int j] ∧ CDiv i j ∧ NewTup H Q [.int (i / j), .int (i % j)]) := by
  intro pins s σ H xs us Q I r ⟨i, j, e, ⟨h1, h2⟩, q⟩
  subst e
  obtain ⟨u, w, rfl, ⟨t, rfl⟩, ⟨t', rfl⟩⟩ := vals2 r
  refine divmod_int (by omega) ?_ (.inl (PyProof.noPylong_small (by omega)))
  rw [Int.fdiv_eq_ediv_of_nonneg i (by omega), Int.fmod_eq_emod_of_nonneg i (by omega)]
  exact Inv.newTup (xs := [.int (i / j), .int (i % j)]) (us := [.int (i / j) s.toks, .int (i % j) (s.toks + 1)]) I (by simp only [List.length_cons, List.length_nil]; rw [sizeLine_eq]; decide) (.cons ⟨_, rfl⟩ (.cons ⟨_, rfl⟩ .nil)) (fun b o e => Heap.get?_push_of_some _ e) (Nat.le_refl _) (Heap.get?_push_size s.heap rfl) q
/-- t + u -/
def rCatF (K : PySem.W.Frag) : R2 := fun x y H Q => ∃ a b xs ys, x = .ref a ∧ y = .ref b ∧ SqT K H a xs ∧ SqT K H b ys ∧ xs.length + ys.length ≤ sizeLine ∧
  (xs = [] → Q (.ref b) H) ∧ (xs ≠ [] → ys = [] → Q (.ref a) H) ∧ (xs ≠ [] → ys ≠ [] → NewTup H Q (xs ++ ys))
theorem op_catF : OpR X (binaryOp .Add) (rCatF X.K) := by
  intro pins s σ H x y v u Q I rx ry ⟨a, b, xs, ys, ea, eb, ha, hb, hz, q0, q1, q2⟩
  subst ea
  subst eb
  by_cases hx : xs = []
  · subst hx
    cases rx
    cases ry
    obtain ⟨its, r1, p1, _⟩ := I.tuple ha
    obtain ⟨its2, r2, p2, _⟩ := I.tuple hb
    cases r1
    exact cat_tup0 p1 p2 ⟨.ref b, H, I, rfl, q0 rfl⟩
  · cases rx
    cases ry
    obtain ⟨its, r1, p1, _⟩ := I.tuple ha
    obtain ⟨its2, r2, p2, _⟩ := I.tuple hb
    refine HT.cat_tup p1 p2 (fun z => hx (r1.nil_iff.mp z)) (fun z => ⟨.ref a, H, I, rfl, q1 hx (r2.nil_iff.mp z)⟩) (fun z => ?_) (by rw [← r1.length, ← r2.length]; exact hz)
    exact Inv.newTup (tk := s.toks) I (by rw [List.length_append]; exact hz) (r1.append r2) (fun b ob q => Heap.get?_push_of_some _ q) (Nat.le_refl _) (Heap.get?_push_size _ rfl) (q2 hx fun w => z (r2.nil_iff.mpr w))
/-- t[lo:hi] -/
def rSlF (K : PySem.W.Frag) : V → Option Int → Option Int → Hp → VK → Prop := fun x lo hi H Q => ∃ a xs, x = .ref a ∧ SqT K H a xs ∧
  (HT.sIx xs.length 0 lo = 0 ∧ HT.sIx xs.length xs.length hi = xs.length → Q (.ref a) H) ∧ (¬ (HT.sIx xs.length 0 lo = 0 ∧ HT.sIx xs.length xs.length hi = xs.length) → NewTup H Q (cutV xs lo hi))
theorem sl_tupF : SlR X (rSlF X.K) := by
  intro pins s σ H x v vl vu lo hi sl Q I rx hs pl pu ⟨a, xs, ea, hx, q1, q2⟩
  subst ea
  cases rx
  obtain ⟨its, r, ht, hz⟩ := I.tuple hx
  have hlen : its.toArray.size = xs.length := by rw [List.size_toArray]; exact r.length.symm
  refine ⟨"tuple", _, PyProof.Rows.slot_tuple_getitem.lookup, ht.typeIs, ?_⟩
  by_cases hw : HT.sIx xs.length 0 lo = 0 ∧ HT.sIx xs.length xs.length hi = xs.length
  · exact getItem_tuple_whole ht hs pl pu (by rw [hlen]; exact hw) ⟨.ref a, H, I, rfl, q1 hw⟩
  · refine HT.getItem_tuple_cut ht hs pl pu (by rw [hlen]; exact hw) ?_ (by rw [hlen]; exact hz)
    rw [hlen]
    refine Inv.newTup (tk := s.toks) I (Nat.le_trans (cutV_length xs lo hi) hz) ((r.drop (HT.sIx xs.length 0 lo)).take (HT.sIx xs.length xs.length hi - HT.sIx xs.length 0 lo)) (fun b ob q => Heap.get?_push_of_some _ q) (Nat.le_refl _) (Heap.get?_push_size _ rfl) (q2 hw)
theorem tuple_mulOne (l : Addr) (items : Array Value) (n : Nat) (dd : Option Addr) (sl : Array (Option Value)) (u : Tok) :
    Meets (Builtin.«tuple.__mul__» ⟨[.ref l, .int 1 u], []⟩) (fun _ R s => s.heap.get? l = some { cls := .type "tuple", dict := dd, data := .seq items n, slots := sl } ∧
      R (.ok (.ret (Value.ref l))) s) :=
  .of_wp fun prog w A R s h => by
    obtain ⟨hp, g, d, tk, os⟩ := s
    obtain ⟨hl, h⟩ := h
    have f1 := AutoSeq1.idx_int
    wp_walk using wpAny_loadPart' hl
    repeat (first
      | (refine wpAny_ite_false (decide_eq_false (by decide)) ?_; wp_walk using wpAny_loadPart' hl)
      | (refine wpAny_ite_true (by simp) ?_; wp_walk using wpAny_loadPart' hl))
    exact ⟨_, rfl, h⟩
theorem tuple_mulNone (l : Addr) (items : Array Value) (n : Nat) (dd : Option Addr) (sl : Array (Option Value)) (u : Tok) (c1 : items.isEmpty = false) :
    Meets (Builtin.«tuple.__mul__» ⟨[.ref l, .int 0 u], []⟩) (fun _ R s => s.heap.get? l = some { cls := .type "tuple", dict := dd, data := .seq items n, slots := sl } ∧
      R (.ok (.ret (Value.ref s.heap.objs.size))) { s with heap := s.heap.push { cls := Value.type "tuple", data := Data.seq #[] }, toks := s.toks }) :=
  .of_wp fun prog w A R s h => by
    obtain ⟨hp, g, d, tk, os⟩ := s
    obtain ⟨hl, h⟩ := h
    have f1 := AutoSeq1.idx_int
    wp_walk using wpAny_loadPart' hl
    repeat (first
      | (refine wpAny_ite_false (decide_eq_false (by first | decide | (rw [c1]; decide))) ?_; wp_walk using wpAny_loadPart' hl)
      | (refine wpAny_ite_true (by simp) ?_; wp_walk using wpAny_loadPart' hl))
    exact ⟨_, rfl, h⟩
/-- t * k -/
def rRepF (K : PySem.W.Frag) : R2 := fun x y H Q => ∃ l k vs, x = .ref l ∧ y = .int k ∧ SqT K H l vs ∧ vs ≠ [] ∧ 0 ≤ k ∧ k ≤ 1000 ∧ vs.length ≤ 1000 ∧ (k ≠ 1 → NewTup H Q (List.replicate k.toNat vs).flatten) ∧ (k = 1 → Q (.ref l) H)
theorem op_repF : OpR X (binaryOp .Mult) (rRepF X.K) := by
  intro pins s σ H x y v u Q I rx ry h
  obtain ⟨l, k, vs, rfl, rfl, hq, hx, h1, h2, hzz, qq, q1⟩ := h
  cases rx
  obtain ⟨t, rfl⟩ := ry
  obtain ⟨ws, r, ⟨⟨cls, d1, dat, sl1⟩, ho1, hc1, n, hd1⟩, hs⟩ := I.tuple hq
  simp only at hc1 hd1
  subst hc1 hd1
  have le1 : ws.length = vs.length := r.length.symm
  have ne1 : ws ≠ [] := fun e => hx (by
    rw [e] at le1
    exact List.eq_nil_of_length_eq_zero le1.symm)
  have emp : ws.toArray.isEmpty = false := by
    cases ws with
    | nil => exact absurd rfl ne1
    | cons a b => rfl
  by_cases k1 : k = 1
  · subst k1
    exact wpAny_binaryOp_repeat_ref (T := "tuple") (U := "int") (by decide) ⟨_, ho1, rfl⟩ (fun s' => typeIs_int s' 1 t) noFill_tuple_mul F.fills_int_mul F.slot_int_rmul repeat_tuple F.slot_int_index.lookup
      (call_meets F.slot_int_rmul (typeIs_int s 1 t) F.entry_int_rmul (F.args_int_rmul_2 _ _) (int_rmul_tuple 1 t l ws.toArray n d1 sl1)
        ⟨ho1, rfl, ⟨_, ho1, rfl⟩, call_meets F.slot_tuple_mul ⟨_, ho1, rfl⟩ F.entry_tuple_mul (F.args_tuple_mul_2 _ _) (tuple_mulOne l ws.toArray n d1 sl1 t) ⟨ho1, ⟨.ref l, H, I, rfl, q1 rfl⟩⟩⟩)
  have qq := qq k1
  by_cases k0 : k = 0
  · subst k0
    refine wpAny_binaryOp_repeat_ref (T := "tuple") (U := "int") (by decide) ⟨_, ho1, rfl⟩ (fun s' => typeIs_int s' 0 t) noFill_tuple_mul F.fills_int_mul F.slot_int_rmul repeat_tuple F.slot_int_index.lookup
      (call_meets F.slot_int_rmul (typeIs_int s 0 t) F.entry_int_rmul (F.args_int_rmul_2 _ _) (int_rmul_tuple 0 t l ws.toArray n d1 sl1)
        ⟨ho1, rfl, ⟨_, ho1, rfl⟩, call_meets F.slot_tuple_mul ⟨_, ho1, rfl⟩ F.entry_tuple_mul (F.args_tuple_mul_2 _ _) (tuple_mulNone l ws.toArray n d1 sl1 t emp) ⟨ho1, ?_⟩⟩)
    exact Inv.newTup (us := []) (tk := s.toks) I (Nat.zero_le _) .nil (fun b ob z => Heap.get?_push_of_some _ z) (Nat.le_refl _) (Heap.get?_push_size _ rfl) qq
  have h1 : 2 ≤ k := by omega
  have sz1 : ws.toArray.size = vs.length := by rw [List.size_toArray, le1]
  have mm : ((ws.toArray.size : Nat) : Int) * k ≤ 1000000 := by
    rw [sz1]
    have b1 : ((vs.length : Nat) : Int) * k ≤ 1000 * k := Int.mul_le_mul_of_nonneg_right (by omega) (by omega)
    omega
  have fl1 : (List.replicate k.toNat ws).flatten.length ≤ sizeLine := by
    rw [PyProof.Rows.lm_len_rep_flat, le1, sizeLine_eq]
    have b1 : k.toNat * vs.length ≤ 1000 * 1000 := Nat.mul_le_mul (by omega) hzz
    omega
  have g0 : (decide (k < -(2 ^ 63)) || decide (k ≥ 2 ^ 63)) = false := by
    rw [decide_eq_false (by omega), decide_eq_false (by omega)] <;> rfl
  have g1 : (ws.toArray.isEmpty || k == 1) = false := by
    rw [emp, Bool.false_or]
    exact beq_eq_false_iff_ne.mpr (by omega)
  have g2 : (decide (k ≤ 0) || ws.toArray.isEmpty) = false := by
    rw [emp, Bool.or_false]
    exact decide_eq_false (by omega)
  have g4 : Builtin.Tuple.tupleTooMany (((ws.toArray.size : Nat) : Int) * k) = false := by
    unfold Builtin.Tuple.tupleTooMany
    rw [sizeLine_eq]
    exact decide_eq_false (by omega)
  refine wpAny_binaryOp_repeat_ref (T := "tuple") (U := "int") (by decide) ⟨_, ho1, rfl⟩ (fun s' => typeIs_int s' k t) noFill_tuple_mul F.fills_int_mul F.slot_int_rmul repeat_tuple F.slot_int_index.lookup
    (call_meets F.slot_int_rmul (typeIs_int s k t) F.entry_int_rmul (F.args_int_rmul_2 _ _) (int_rmul_tuple k t l ws.toArray n d1 sl1)
      ⟨ho1, rfl, ⟨_, ho1, rfl⟩, call_meets F.slot_tuple_mul ⟨_, ho1, rfl⟩ F.entry_tuple_mul (F.args_tuple_mul_2 _ _) (tuple_mulW l ws.toArray n d1 sl1 k t g0 g1 g2 (by omega) g4 (by rw [size_rep, List.size_toArray]; exact fl1)) ⟨ho1, ?_⟩⟩)
  rw [size_rep]
  exact Inv.newTup (tk := s.toks) I (by rw [PyProof.Rows.lm_len_rep_flat, sizeLine_eq]; have b1 : k.toNat * vs.length ≤ 1000 * 1000 := Nat.mul_le_mul (by omega) hzz; omega) (r.rep k.toNat) (fun b ob z => Heap.get?_push_of_some _ z) (Nat.le_refl _) (Heap.get?_push_size _ rfl) qq
/-- dict of a tuple of pairs -/
theorem call_dictT (hcalm : X.calm = true) : CallR X (.type "dict") (fun xs H Q => ∃ (a : Addr) (ps : List Addr) (kvs : List (Key × V)), xs = [.ref a] ∧ PTu X.K H a (ps.map V.ref) ∧ Paired (fun p kv => SqT X.K H p [kV kv.1, kv.2]) ps kvs ∧
    ∀ p, H p = none → Q (.ref p) (L2.upd H p (.dK (mergeK [] kvs)))) := by
  intro pins s σ H xs us Q I r ⟨a, ps, kvs, ex, hq, hp, q⟩
  subst ex
  obtain ⟨u, eu, rx⟩ := vals1 r
  subst eu
  cases rx
  have pl : ∃ its : List Value, Vals (ps.map V.ref) its ∧ PlainSeq "tuple" s.heap a its.toArray ∧ (ps.map V.ref).length ≤ sizeLine := by
    rcases hq with ⟨o, h, hd⟩ | ⟨o, its, n, h1, h2, hd, h3, h4, h5⟩
    · obtain ⟨e, hz, its, r2, o2, e2, c2, n, d2⟩ := I.hok a _ h
      rw [e] at e2
      cases e2
      exact ⟨its, r2, ⟨o, n, e, c2, hd, d2⟩, hz⟩
    · refine ⟨its.toList, h5, ⟨o, n, I.kIn a o h1, h2, hd, by simpa using h3⟩, ?_⟩
      have e := h5.length
      simp only [Array.length_toList] at e
      omega
  obtain ⟨its, rv, pl, hz⟩ := pl
  have ei := refs_at rv
  subst ei
  rw [List.length_map] at hz
  obtain ⟨prs, rel, hl, hpr⟩ := pairs_of I hp
  have hU : ∀ j : Nat, ∃ u : Value, ∀ q, prs[j]? = some q → ∃ b, ps[j]? = some b ∧ IsTup s.heap b #[u, q.2] ∧ keyIs q.1 u = true := fun j => by
    cases e : prs[j]? with
    | none => exact ⟨.none, fun q z => nomatch z⟩
    | some q =>
      obtain ⟨b, u, e1, e2, e3⟩ := hpr j q e
      exact ⟨u, fun q' z => by cases z; exact ⟨b, e1, e2, e3⟩⟩
  let U : Nat → Value := fun j => Classical.choose (hU j)
  have hU' : ∀ j q, prs[j]? = some q → ∃ b, ps[j]? = some b ∧ IsTup s.heap b #[U j, q.2] ∧ keyIs q.1 (U j) = true := fun j => Classical.choose_spec (hU j)
  let pv : List (Value × Value) := prs.zipIdx.map fun p => (U p.2, p.1.2)
  have hpv : ∀ j k v, pv[j]? = some (k, v) → ∃ q, prs[j]? = some q ∧ k = U j ∧ v = q.2 := fun j k v e => by
    simp only [pv, List.getElem?_map, List.getElem?_zipIdx, Option.map_map, Option.map_eq_some_iff] at e
    obtain ⟨q, e1, e2⟩ := e
    simp only [Function.comp, Prod.mk.injEq, Nat.zero_add] at e2
    exact ⟨q, e1, e2.1.symm, e2.2.symm⟩
  have hpl : pv.length = ps.length := by simp [pv, hl]
  let Ts : Nat → Addr := fun j => ps.getD j 0
  refine PySem.call_dict_pairs (knd := mixKind X.prog X.w) (kvs := prs) (PairArg.tuple a (ps.map Value.ref).toArray Ts pv) (I.ok.hd hcalm) ⟨pl, by simp [hpl], fun j k v e => ?_⟩ ⟨by rw [hpl, hl], fun j k v e => ?_⟩ (by rw [hpl]; exact hz) fun h2 tk2 hd2 k => ?_
  · obtain ⟨q, e1, rfl, rfl⟩ := hpv j k v e
    obtain ⟨b, e2, e3, _⟩ := hU' j q e1
    have eT : Ts j = b := by simp [Ts, List.getD, e2]
    refine ⟨by rw [eT]; simp [e2], ?_⟩
    rw [eT]
    exact .inl e3
  · obtain ⟨q, e1, rfl, rfl⟩ := hpv j k v e
    obtain ⟨b, e2, e3, e4⟩ := hU' j q e1
    exact ⟨q.1, e1, e4⟩
  · have hm : (s.heap.objs.size == sysModules) = false := beq_eq_false_iff_ne.mpr (Nat.ne_of_gt I.big)
    have hlen : (mergeK [] kvs).length ≤ sizeLine := by
      refine Nat.le_trans (length_mergeK kvs []) ?_
      rw [List.length_nil, Nat.zero_add, rel.length, hl]
      exact hz
    exact ⟨.ref s.heap.objs.size, L2.upd H s.heap.objs.size (.dK (mergeK [] kvs)), I.laid (t' := tk2) (fun b o e => k b o (fun z => nomatch z) e) (Nat.le_refl _) (show ObjOk X.prog X.w _ _ _ (.dK (mergeK [] kvs)) from ⟨hlen, hm, merged [] prs, KV.merge rel .nil, hd2⟩), rfl, q _ (I.hok.fresh (Nat.le_refl _))⟩
end
/-- a new pair, known to its object -/
def YPr (xs ys : Nat → Option V) : Nat → Hp → V → Hp → Prop := fun n H v H1 => ∃ T o x y, v = .ref T ∧ H T = none ∧ o.dict = none ∧ H1 = L2.upd H T (.frz o (.tup [x, y])) ∧ xs n = some x ∧ ys n = some y
end RF
end
section
set_option linter.all false
set_option autoImplicit false
/-! RfSem: a small language of our own, its data by value, and what its terms do. Plain Lean. -/
namespace RF
open PySem (Str)
abbrev Ky := Sum Int Str
/-- data by value; obj n: the n-th thing of the store (shared, changed in place) -/
inductive D where
  | non | bl (b : Bool) | int (i : Int) | str (x : Str)
  | tup (l : List D) | lst (l : List D) | dct (l : List (Ky × D))
  | ins (c : Nat) (l : List (Str × D)) | obj (n : Nat)
  /-- a list that is never changed (the script) -/
  | frz (l : List D)
  deriving Inhabited
abbrev Sto := List D
inductive Out (α : Type) where
  | ok (a : α) (s : Sto) | exc (e : D) (s : Sto) | no
abbrev M (α : Type) := Sto → Out α
def M.pure {α : Type} (a : α) : M α := fun s => .ok a s
def M.bind {α β : Type} (m : M α) (f : α → M β) : M β := fun s => match m s with
  | .ok a s' => f a s'
  | .exc e s' => .exc e s'
  | .no => .no
def M.no {α : Type} : M α := fun _ => .no
instance : Monad M where
  pure := M.pure
  bind := M.bind
@[simp] theorem M.pure_run {α : Type} (a : α) (s : Sto) : (Pure.pure a : M α) s = .ok a s := rfl
@[simp] theorem M.bind_run {α β : Type} (m : M α) (f : α → M β) (s : Sto) : (m >>= f) s = (match m s with | .ok a s' => f a s' | .exc e s' => .exc e s' | .no => .no) := rfl
@[simp] theorem M.no_run {α : Type} (s : Sto) : (M.no : M α) s = .no := rfl
def M.ofO {α : Type} : Option α → M α
  | some a => Pure.pure a
  | none => M.no
/-! ### operations on data -/
mutual
def D.eqv : D → D → Bool
  | .non, .non => true
  | .bl a, .bl b => a == b
  | .bl a, .int j => (if a then 1 else 0) == j
  | .int i, .bl b => i == (if b then 1 else 0)
  | .int i, .int j => i == j
  | .str x, .str y => x == y
  | .lst xs, .lst ys => D.eqvs xs ys
  | .tup xs, .tup ys => D.eqvs xs ys
  | _, _ => false
def D.eqvs : List D → List D → Bool
  | [], [] => true
  | x :: xs, y :: ys => D.eqv x y && D.eqvs xs ys
  | _, _ => false
end
-- data that == of the model compares place by place: no dict, no instance, nothing shared
mutual
def D.plain : D → Bool
  | .tup l => D.plains l
  | .lst l => D.plains l
  | .dct _ => false
  | .ins _ _ => false
  | .obj _ => false
  | .frz _ => false
  | .str x => x.cps.all (· < 1114112)
  | _ => true
def D.plains : List D → Bool
  | [] => true
  | d :: r => D.plain d && D.plains r
end
mutual
def D.deep : D → Nat
  | .tup l => D.deeps l + 1
  | .lst l => D.deeps l + 1
  | _ => 0
def D.deeps : List D → Nat
  | [] => 0
  | d :: r => max (D.deep d) (D.deeps r)
end
/-- no tuple, list, dict, instance -/
def D.flat : D → Bool
  | .non | .bl _ | .int _ | .str _ => true
  | _ => false
def line : Nat := 16777216
mutual
def D.py : D → PySem.PyData
  | .non => .none
  | .bl b => .bool b
  | .int i => .int i
  | .str x => .str x
  | .tup l => .tuple (D.pys l)
  | .lst l => .list (D.pys l)
  | _ => .none
def D.pys : List D → List PySem.PyData
  | [] => []
  | d :: r => D.py d :: D.pys r
end
-- nothing in it can be changed
mutual
def D.imm : D → Bool
  | .non | .bl _ | .int _ | .str _ | .obj _ => true
  | .tup l => D.imms l
  | _ => false
def D.imms : List D → Bool
  | [] => true
  | d :: r => D.imm d && D.imms r
end
/-- the class and the attributes of an instance, of the store or not -/
def insOf (s : Sto) : D → Option (Nat × List (Str × D))
  | .ins c l => some (c, l)
  | .obj n => (match s[n]? with
    | some (.ins c l) => some (c, l)
    | _ => none)
  | _ => none
-- only things of the store below n are in it
mutual
def D.lt (n : Nat) : D → Bool
  | .obj m => decide (m < n)
  | .tup l => D.lts n l
  | .lst l => D.lts n l
  | .frz l => D.lts n l
  | .dct l => D.ltD n l
  | .ins _ l => D.ltF n l
  | _ => true
def D.lts (n : Nat) : List D → Bool
  | [] => true
  | d :: r => D.lt n d && D.lts n r
def D.ltD (n : Nat) : List (Ky × D) → Bool
  | [] => true
  | (_, d) :: r => D.lt n d && D.ltD n r
def D.ltF (n : Nat) : List (Str × D) → Bool
  | [] => true
  | (_, d) :: r => D.lt n d && D.ltF n r
end
/-- an attribute is set -/
def putA {α : Type} (f : Str) (v : α) : List (Str × α) → List (Str × α)
  | [] => [(f, v)]
  | (g, x) :: r => if g = f then (g, v) :: r else (g, x) :: putA f v r
/-- what repr writes of plain data -/
def D.text (d : D) : Str := d.py.shown
def showOk (d : D) : Bool := D.plain d && (decide (D.deep d ≤ 60) && (d.py.showable && decide (d.text.length ≤ line)))
def keyOf : D → Option Ky
  | .int i => some (.inl i)
  | .str x => some (.inr x)
  | _ => none
def dget {α : Type} (l : List (Ky × α)) (k : Ky) : Option α := match l with
  | [] => none
  | (j, v) :: r => if j = k then some v else dget r k
def dput {α : Type} (l : List (Ky × α)) (k : Ky) (v : α) : List (Ky × α) :=
  if (l.any fun p => decide (p.1 = k)) = true then l.map (fun p => if p.1 = k then (p.1, v) else p) else l ++ [(k, v)]
def dputs {α : Type} (l : List (Ky × α)) : List (Ky × α) → List (Ky × α)
  | [] => l
  | (k, v) :: r => dputs (dput l k v) r
/-- the place of an index -/
def ixOf (n : Nat) (i : Int) : Option Nat := if 0 ≤ i then (if i < n then some i.toNat else none) else if -(n : Int) ≤ i then some (i + n).toNat else none
def atI {α : Type} (xs : List α) (i : Int) : Option α := (ixOf xs.length i).bind fun j => xs[j]?
/-- a slice's end -/
def cutIx (n d : Nat) : Option Int → Nat
  | none => d
  | some v => if v < 0 then (v + n).toNat else min v.toNat n
def cutL {α : Type} (xs : List α) (lo hi : Option Int) : List α := (xs.drop (cutIx xs.length 0 lo)).take (cutIx xs.length xs.length hi - cutIx xs.length 0 lo)
def sgn (c : Nat) : Str := ⟨#[c]⟩
inductive Bop where
  | add | sub | mul | fdiv | mod | pow
  deriving DecidableEq
def mulOk (i j : Int) : Bool := decide (i.natAbs.log2 + j.natAbs.log2 < 4000000)
def divOk (j : Int) : Bool := decide (0 < j) && decide (j.natAbs.log2 < 9000)
def powOk (i j : Int) : Bool := decide (0 ≤ j) && (decide (j ≤ 1000000) && decide (i.natAbs < 2 ^ 64))
def binD : Bop → D → D → M D
  | .add, .int i, .int j => pure (.int (i + j))
  | .add, .str x, .str y => if x.length + y.length ≤ line then pure (.str (x ++ y)) else M.no
  | .add, .lst x, .lst y => if x.length + y.length ≤ line then pure (.lst (x ++ y)) else M.no
  | .add, .tup x, .tup y => if x.length + y.length ≤ line then pure (.tup (x ++ y)) else M.no
  | .sub, .int i, .int j => pure (.int (i - j))
  | .mul, .int i, .int j => if mulOk i j = true then pure (.int (i * j)) else M.no
  | .mul, .lst x, .int k => if x.length * k.toNat ≤ 1000000 ∧ k < 1000000 ∧ -1000000 < k then pure (.lst (List.replicate k.toNat x).flatten) else M.no
  | .mul, .tup x, .int k => if x.length ≠ 0 ∧ 0 ≤ k ∧ k ≤ 1000 ∧ x.length ≤ 1000 then pure (.tup (List.replicate k.toNat x).flatten) else M.no
  | .fdiv, .int i, .int j => if divOk j = true then pure (.int (i / j)) else M.no
  | .mod, .int i, .int j => if 0 < j then pure (.int (i % j)) else M.no
  | .pow, .int i, .int j => if powOk i j = true then pure (.int (i ^ j.toNat)) else M.no
  | _, _, _ => M.no
inductive Cop where
  | eq | ne | lt | le | gt | ge | isN | notN | inn | nin
  deriving DecidableEq
def okEq (a b : D) : Bool := (D.plain a && decide (D.deep a ≤ 60)) && (D.plain b && decide (D.deep b ≤ 60))
def hasKey {α : Type} (l : List (Ky × α)) (k : Ky) : Bool := (dget l k).isSome
/-- a dict with something in it -/
def D.isFull : D → Bool
  | .dct (_ :: _) => true
  | _ => false
def D.isEmp : D → Bool
  | .dct [] => true
  | _ => false
/-- x in y, for flat x (and flat items); plain data of any depth; {} in dicts that are not empty -/
def inD (s : Sto) (x : D) : D → Option Bool
  | .lst l => if D.flat x && l.all D.flat then some (l.any fun y => D.eqv y x)
    else if okEq x (.lst l) then some (l.any fun y => D.eqv y x)
    else if x.isEmp && l.all D.isFull then some false else none
  | .tup l => if D.flat x && l.all D.flat then some (l.any fun y => D.eqv y x) else none
  | .str z => (match x with
    | .str y => (match y.cps.toList with
      | [c] => some (decide (c ∈ z.cps.toList))
      | _ => none)
    | _ => none)
  | .dct l => (match x with
    | .str y => some (hasKey l (.inr y))
    | .int i => some (hasKey l (.inl i))
    | _ => none)
  | _ => none
/-- == of two dicts whose values are plain -/
def dctEq (l m : List (Ky × D)) : Bool := l.length == m.length && l.all fun p => (match dget m p.1 with
  | some v => D.eqv p.2 v
  | none => false)
def plainV (l : List (Ky × D)) : Bool := l.all fun p => D.plain p.2 && decide (D.deep p.2 ≤ 60)
def D.isNon : D → Bool
  | .non => true
  | _ => false
def cmpD : Cop → D → D → M D
  | .eq, .dct l, .dct m => if plainV l && plainV m then pure (.bl (dctEq l m)) else M.no
  | .ne, .dct l, .dct m => if plainV l && plainV m then pure (.bl (!dctEq l m)) else M.no
  | .ne, .non, .dct _ => pure (.bl true)
  | .eq, .str x, .str y => pure (.bl (decide (x = y)))
  | .ne, .str x, .str y => pure (.bl (!decide (x = y)))
  | .eq, a, b => if okEq a b then pure (.bl (D.eqv a b)) else M.no
  | .ne, a, b => if okEq a b then pure (.bl (!D.eqv a b)) else M.no
  | .lt, .int i, .int j => pure (.bl (decide (i < j)))
  | .le, .int i, .int j => pure (.bl (decide (i ≤ j)))
  | .gt, .int i, .int j => pure (.bl (decide (j < i)))
  | .ge, .int i, .int j => pure (.bl (decide (j ≤ i)))
  | .lt, .str x, .str y => pure (.bl (decide (x.cps.toList < y.cps.toList)))
  | .isN, a, .non => pure (.bl a.isNon)
  | .notN, a, .non => pure (.bl (!a.isNon))
  | .inn, a, b => fun s => (match inD s a b with
    | some r => .ok (.bl r) s
    | none => .no)
  | .nin, a, b => fun s => (match inD s a b with
    | some r => .ok (.bl (!r)) s
    | none => .no)
  | _, _, _ => M.no
inductive Ty where
  | int | bool | str | tuple | cls (c : Nat)
  deriving DecidableEq
def isTy : Ty → D → Bool
  | .int, .int _ | .int, .bl _ | .bool, .bl _ | .str, .str _ | .tuple, .tup _ => true
  | .cls c, .ins c' _ => c == c'
  | _, _ => false
/-- isinstance; n: how many classes there are -/
def clsIn (n : Nat) : D → Bool
  | .ins c _ => decide (c < n)
  | _ => true
def isD (n : Nat) (s : Sto) (t : Ty) : D → Option Bool
  | .obj m => (match s[m]? with
    | some (.ins c l) => if c < n then some (isTy t (.ins c l)) else none
    | some (.lst l) => some (isTy t (.lst l))
    | some (.dct l) => some (isTy t (.dct l))
    | _ => none)
  | d => if clsIn n d = true then some (isTy t d) else none
/-- the builtins that are called by their names -/
inductive Bi where
  | len | tuple | list | dict | sorted | sortedSet | abs | min | max | int | bool | str | repr | all | any | divmod
  deriving DecidableEq
def strsOf : List D → Option (List Str)
  | [] => some []
  | .str x :: r => (strsOf r).map (x :: ·)
  | _ :: _ => none
def blsOf : List D → Option (List Bool)
  | [] => some []
  | .bl x :: r => (blsOf r).map (x :: ·)
  | _ :: _ => none
def strLe (x y : Str) : Bool := decide (x.cps.toList ≤ y.cps.toList)
def insertS (x : Str) : List Str → List Str
  | [] => [x]
  | y :: r => if strLe x y then x :: y :: r else y :: insertS x r
/-- in ascending order -/
def sortS : List Str → List Str
  | [] => []
  | x :: r => insertS x (sortS r)
def insertU (x : Str) : List Str → List Str
  | [] => [x]
  | y :: r => if x = y then y :: r else if strLe x y then x :: y :: r else y :: insertU x r
/-- in ascending order, each once -/
def sortU : List Str → List Str
  | [] => []
  | x :: r => insertU x (sortU r)
def pairsOf : List D → Option (List (Ky × D))
  | [] => some []
  | .tup [k, v] :: r => (match keyOf k, pairsOf r with
    | some q, some m => some ((q, v) :: m)
    | _, _ => none)
  | _ :: _ => none
def seqOf : D → Option (List D)
  | .tup l => some l
  | .lst l => some l
  | _ => none
def biD : Bi → List D → M D
  | .len, [.tup l] => pure (.int l.length)
  | .len, [.lst l] => pure (.int l.length)
  | .len, [.dct l] => pure (.int l.length)
  | .len, [.frz l] => pure (.int l.length)
  | .len, [.str x] => if x.length ≤ line then pure (.int x.length) else M.no
  | .tuple, [.lst l] => pure (.tup l)
  | .tuple, [.tup l] => pure (.tup l)
  | .list, [.lst l] => pure (.lst l)
  | .list, [.tup l] => pure (.lst l)
  | .list, [.str x] => if x.length ≤ line then pure (.lst (x.cps.toList.map fun c => .str (sgn c))) else M.no
  | .dict, [.dct l] => pure (.dct l)
  | .dict, [.lst l] => (match pairsOf l with
    | some m => if m.length ≤ line then pure (.dct (dputs [] m)) else M.no
    | none => M.no)
  | .dict, [.tup l] => (match pairsOf l with
    | some m => if m.length ≤ line then pure (.dct (dputs [] m)) else M.no
    | none => M.no)
  | .sorted, [.lst l] => (match strsOf l with
    | some xs => if xs.length < 64 then pure (.lst ((sortS xs).map .str)) else M.no
    | none => M.no)
  | .sorted, [.tup l] => (match strsOf l with
    | some xs => if xs.length < 64 then pure (.lst ((sortS xs).map .str)) else M.no
    | none => M.no)
  | .abs, [.int i] => pure (.int (if i < 0 then -i else i))
  | .min, [.int i, .int j] => pure (.int (if j < i then j else i))
  | .max, [.int i, .int j] => pure (.int (if j > i then j else i))
  | .int, [.int i] => pure (.int i)
  | .int, [.bl b] => pure (.int (if b then 1 else 0))
  | .all, [.lst l] => (match blsOf l with
    | some bs => pure (.bl (bs.all id))
    | none => M.no)
  | .any, [.lst l] => (match blsOf l with
    | some bs => pure (.bl (bs.any id))
    | none => M.no)
  | .repr, [.lst l] => if showOk (.lst l) = true then pure (.str (D.text (.lst l))) else M.no
  | .repr, [.tup l] => if showOk (.tup l) = true then pure (.str (D.text (.tup l))) else M.no
  | .divmod, [.int i, .int j] => if 0 < j ∧ j < 1073741824 then pure (.tup [.int (i / j), .int (i % j)]) else M.no
  | _, _ => M.no
/-! ### the terms -/
/-- methods of built-in types -/
inductive Mt where
  | index | join | tindex
  deriving DecidableEq
def idxOf (y : D) : List D → Option Nat
  | [] => none
  | x :: r => if D.eqv x y = true then some 0 else (idxOf y r).map (· + 1)
def gluedS (g : Str) (xs : List Str) : Str := ⟨(xs.drop 1).foldl (fun acc p => acc ++ g.cps ++ p.cps) (xs.headD Str.empty).cps⟩
def mtD : Mt → D → List D → M D
  | .index, .lst l, [y] => if D.flat y && l.all D.flat then (match idxOf y l with
    | some j => pure (.int (j : Nat))
    | none => M.no) else M.no
  | .tindex, .tup l, [.str z] => (match strsOf l with
    | some ys => (match ys.findIdx? (fun y => decide (y = z)) with
      | some j => pure (.int (j : Nat))
      | none => M.no)
    | none => M.no)
  | .join, .str g, [x] => (match seqOf x with
    | some l => (match strsOf l with
      | some xs => if (xs.map (·.length)).sum + xs.length * g.length ≤ 16777216 then pure (.str (gluedS g xs)) else M.no
      | none => M.no)
    | none => M.no)
  | _, _, _ => M.no
inductive Tg where
  | nm (i : Nat) | tup (l : List Tg)
inductive ItK where
  | seq | range1 | range2 | enum | range3
  deriving DecidableEq
inductive X where
  | var (i : Nat)
  | cst (d : D)
  | call (f : Nat) (as : List X)
  | bi (b : Bi) (as : List X)
  | bin (op : Bop) (a b : X)
  | neg (a : X)
  | cmp (op : Cop) (a b : X)
  | chain (op op' : Cop) (a b c : X)
  | and (l : List X)
  | or (l : List X)
  | not (a : X)
  | ite (c a b : X)
  | tup (l : List X)
  | lst (l : List X)
  | ix (a i : X)
  | cut (a : X) (lo hi : Option X)
  | comp (e : X) (tg : Tg) (k : ItK) (it : List X) (ifs : List X) (own : List Nat)
  | isi (a : X) (t : Ty)
  /-- an attribute; a property of class c, its getter's number; a method m of class c, its def's number, the instance first -/
  | fld (c : Nat) (a : X) (f : Str)
  | prop (c f : Nat) (a : X)
  | mth (c : Nat) (m : Str) (f : Nat) (a : X) (as : List X)
  /-- a new instance of class c by its __init__ f, never changed behind it -/
  | newV (c f : Nat) (as : List X)
  /-- a method of a built-in type -/
  | meth (m : Mt) (a : X) (as : List X)
  | fstr (l : List X)
  /-- an own slot that holds what can't be changed -/
  | vim (i : Nat)
  /-- a call that reads own slots, and answers with what can't be changed -/
  | callB (f : Nat) (as : List X)
  | dnew
  /-- a module's constant -/
  | gl (i : Nat)
  /-- x + y, x * n, x[..] of lists: something new -/
  | addN (a b : X)
  | mulN (a b : X)
  | cutN (a : X) (lo hi : Option X)
  /-- something new, for the store -/
  | mkx (e : X)
  /-- a dict of the module: whether it has a key, what stands at a key -/
  | inG (i : Nat) (no : Bool) (a : X)
  | ixG (i : Nat) (a : X)
  /-- a call with keywords; pm: where each parameter's argument stands -/
  | callK (f : Nat) (as ks : List X) (pm : List Nat)
  /-- sorted(set(..)) of texts -/
  | srt (a : X)
  deriving Inhabited
inductive S where
  | asg (t : Tg) (e : X)
  /-- an own slot takes what can't be changed -/
  | asgI (i : Nat) (e : X)
  /-- what an own slot i holds is given to a plain slot j; i is no longer read -/
  | mov (j i : Nat)
  /-- a new thing of the store -/
  | mk (i : Nat) (e : X)
  | par (l : List Nat) (es : List X)
  | setIx (i : Nat) (k e : X)
  /-- into a thing of the store -/
  | setOb (i : Nat) (k e : X)
  /-- an attribute of an instance of the store -/
  | setF (i c : Nat) (f : Str) (e : X)
  | ex (e : X)
  | app (i : Nat) (e : X)
  /-- x[k], y = e, x a thing of the store -/
  | obT (i : Nat) (k : X) (j : Nat) (e : X)
  | iff (c : X) (a b : List S)
  | forr (t : Tg) (k : ItK) (it : List X) (body : List S)
  | whl (c : X) (body : List S)
  | ret (e : Option X)
  /-- what an own slot holds is given back, new -/
  | retO (i : Nat)
  | never
  | pass
  | brk
  deriving Inhabited
/-! ### what they do -/
abbrev En := List (Option D)
def getV (δ : En) (i : Nat) : M D := match δ[i]? with
  | some (some d) => pure d
  | _ => M.no
mutual
def bindT : Tg → D → En → Option En
  | .nm i, d, δ => if i < δ.length then some (δ.set i (some d)) else none
  | .tup ts, .tup ds, δ => bindTs ts ds δ
  | .tup _, _, _ => none
def bindTs : List Tg → List D → En → Option En
  | [], [], δ => some δ
  | t :: ts, d :: ds, δ => (bindT t d δ).bind fun δ' => bindTs ts ds δ'
  | _, _, _ => none
end
def asB : D → M Bool
  | .bl b => pure b
  | _ => M.no
def rangeL : Nat → Int → List D
  | 0, _ => []
  | n + 1, lo => .int lo :: rangeL n (lo + 1)
def downL : Nat → Int → List D
  | 0, _ => []
  | n + 1, hi => .int hi :: downL n (hi - 1)
def enumL : Nat → List D → List D
  | _, [] => []
  | n, d :: r => .tup [.int n, d] :: enumL (n + 1) r
def small (i : Int) : Bool := decide (-(2 ^ 62) ≤ i) && decide (i < 2 ^ 62)
def itemsOf : ItK → List D → Option (List D)
  | .seq, [.tup l] => some l
  | .seq, [.lst l] => some l
  | .seq, [.frz l] => some l
  | .seq, [.str x] => some (x.cps.toList.map fun c => .str (sgn c))
  | .range1, [.int j] => if small j then some (rangeL j.toNat 0) else none
  | .range2, [.int i, .int j] => if small i && small j then some (rangeL (j - i).toNat i) else none
  | .range3, [.int i, .int j, .int c] => if (small i && small j) && c == -1 then some (downL (i - j).toNat i) else none
  | .enum, [.lst l] => some (enumL 0 l)
  | .enum, [.tup l] => some (enumL 0 l)
  | _, _ => none
def ixD (s : Sto) : D → D → Option D
  | .tup l, .int i => atI l i
  | .lst l, .int i => atI l i
  | .frz l, .int i => atI l i
  | .str z, .int i => if z.length ≤ line then (atI z.cps.toList i).map fun c => .str (sgn c) else none
  | .dct l, k => (keyOf k).bind fun q => dget l q
  | .obj n, .int i => (match s[n]? with
    | some (.lst l) => atI l i
    | _ => none)
  | _, _ => none
def cutD : D → Option Int → Option Int → Option D
  | .tup l, lo, hi => some (.tup (cutL l lo hi))
  | .lst l, lo, hi => some (.lst (cutL l lo hi))
  | .frz l, lo, hi => some (.lst (cutL l lo hi))
  | .str z, lo, hi => if z.length ≤ line then some (.str ⟨(cutL z.cps.toList lo hi).toArray⟩) else none
  | _, _, _ => none
/-- what stands in an f-string -/
def fmtD : D → Option Str
  | .str x => if x.length ≤ line then some x else none
  | .int i => if i.natAbs.log2 < 1920 then some (Str.ofString (toString i)) else none
  | _ => none
def fmtsD : List D → Option (List Str)
  | [] => some []
  | d :: r => (match fmtD d, fmtsD r with
    | some x, some l => some (x :: l)
    | _, _ => none)
def joinS : List Str → Str
  | [] => Str.empty
  | x :: r => x ++ joinS r
def wipe (δ : En) : List Nat → En
  | [] => δ
  | v :: vs => (wipe δ vs).set v none
/-- what calls, methods and attributes give: the def's number and its arguments; an instance, a name, its arguments -/
structure Fns where
  tb : Nat → List (Str × D)
  nc : Nat
  gl : Nat → D
  fn : Nat → List D → M D
def compL (f : D → M (Option D)) : List D → M (List D)
  | [] => pure []
  | d :: r => do
    let o ← f d
    let l ← compL f r
    pure (match o with
      | some v => v :: l
      | none => l)
def addNF : D → D → M D
  | .lst x, .lst y => if x.length + y.length ≤ line then pure (.lst (x ++ y)) else M.no
  | _, _ => M.no
def mulNF : D → D → M D
  | .lst x, .int k => if x.length * k.toNat ≤ 1000000 ∧ k < 1000000 ∧ -1000000 < k then pure (.lst (List.replicate k.toNat x).flatten) else M.no
  | _, _ => M.no
def srtF (x : D) : M D := match seqOf x with
  | some l => (match strsOf l with
    | some xs => if xs.length < 64 then pure (.lst ((sortU xs).map .str)) else M.no
    | none => M.no)
  | none => M.no
def cutNF (x : D) (l h : Option Int) : M D := match x with
  | .lst x => pure (.lst (cutL x l h))
  | .frz x => pure (.lst (cutL x l h))
  | _ => M.no
/-- the values by the parameters' order: pm tells where each stands -/
def pick {α : Type} (pm : List Nat) (l : List α) (d : α) : List α := pm.map fun i => l.getD i d
def permD (pm : List Nat) (ds : List D) : List D := pick pm ds .non
def inGF (l : List (Str × D)) (no : Bool) : D → M D
  | .str z => pure (.bl (if no then !(l.lookup z).isSome else (l.lookup z).isSome))
  | _ => M.no
def ixGF (l : List (Str × D)) : D → M D
  | .str z => M.ofO (l.lookup z)
  | _ => M.no
def fldF (c : Nat) (f : Str) (x : D) : M D := fun s => match insOf s x with
  | some (c', l) => if c' = c then (match l.lookup f with
    | some d => .ok d s
    | none => .no) else .no
  | none => .no
def propF (g : List D → M D) (c : Nat) (x : D) : M D := fun s => match insOf s x with
  | some (c', _) => if c' = c then g [x] s else .no
  | none => .no
def mthC (c : Nat) (m : Str) (x : D) : M Unit := fun s => match insOf s x with
  | some (c', l) => if c' = c ∧ l.lookup m = none then .ok () s else .no
  | none => .no
open Classical in
/-- made in the store, then taken out of it -/
noncomputable def newF (g : List D → M D) (c : Nat) (ds : List D) : M D := fun s => match g (.obj s.length :: ds) (s ++ [.ins c []]) with
  | .ok .non s' => (match s'[s.length]? with
    | some (.ins c' l) => if c' = c ∧ s'.length = s.length + 1 ∧ s'.take s.length = s ∧ D.ltF s.length l = true then .ok (.ins c l) s else .no
    | _ => .no)
  | _ => .no
mutual
noncomputable def denX (Φ : Fns) : X → En → M D
  | .var i, δ => getV δ i
  | .cst d, _ => pure d
  | .call f as, δ => do Φ.fn f (← denXs Φ as δ)
  | .bi b as, δ => do biD b (← denXs Φ as δ)
  | .bin op a b, δ => do
    let x ← denX Φ a δ
    let y ← denX Φ b δ
    binD op x y
  | .neg a, δ => do
    match ← denX Φ a δ with
    | .int i => pure (.int (-i))
    | _ => M.no
  | .cmp op a b, δ => do
    let x ← denX Φ a δ
    let y ← denX Φ b δ
    cmpD op x y
  | .chain op op' a b c, δ => do
    let x ← denX Φ a δ
    let y ← denX Φ b δ
    let k ← asB (← cmpD op x y)
    if k then do
      let z ← denX Φ c δ
      cmpD op' y z
    else pure (.bl false)
  | .and l, δ => do pure (.bl (← denAnd Φ l δ))
  | .or l, δ => do pure (.bl (← denOr Φ l δ))
  | .not a, δ => do pure (.bl (!(← asB (← denX Φ a δ))))
  | .ite c a b, δ => do
    if ← asB (← denX Φ c δ) then denX Φ a δ else denX Φ b δ
  | .tup l, δ => do
    let ds ← denXs Φ l δ
    if ds.length ≤ 1000 then pure (.tup ds) else M.no
  | .lst l, δ => do
    let ds ← denXs Φ l δ
    if ds.length ≤ 1000 then pure (.lst ds) else M.no
  | .ix a i, δ => do
    let x ← denX Φ a δ
    let y ← denX Φ i δ
    fun s => match ixD s x y with
      | some v => .ok v s
      | none => .no
  | .cut a lo hi, δ => do
    let x ← denX Φ a δ
    let l ← denO Φ lo δ
    let h ← denO Φ hi δ
    M.ofO (cutD x l h)
  | .comp e tg k it ifs own, δ => do
    let ds ← denXs Φ it δ
    let items ← M.ofO (itemsOf k ds)
    let l ← compL (fun d => do
      let δ' ← M.ofO (bindT tg d (wipe δ own))
      if ← denAnd Φ ifs δ' then do pure (some (← denX Φ e δ')) else pure none) items
    if items.length < line then pure (.lst l) else M.no
  | .isi a t, δ => do
    let x ← denX Φ a δ
    fun s => match isD Φ.nc s t x with
      | some b => .ok (.bl b) s
      | none => .no
  | .fld c a f, δ => do fldF c f (← denX Φ a δ)
  | .prop c f a, δ => do propF (Φ.fn f) c (← denX Φ a δ)
  | .mth c m f a as, δ => do
    let x ← denX Φ a δ
    let _ ← mthC c m x
    let ds ← denXs Φ as δ
    Φ.fn f (x :: ds)
  | .newV c f as, δ => do newF (Φ.fn f) c (← denXs Φ as δ)
  | .meth m a as, δ => do
    let x ← denX Φ a δ
    let ds ← denXs Φ as δ
    mtD m x ds
  | .fstr l, δ => do
    let ds ← denXs Φ l δ
    match fmtsD ds with
    | some xs => if (joinS xs).length ≤ line then pure (.str (joinS xs)) else M.no
    | none => M.no
  | .vim i, δ => do
    let d ← getV δ i
    if d.imm then pure d else M.no
  | .callB f as, δ => do
    let d ← Φ.fn f (← denXs Φ as δ)
    if d.imm then pure d else M.no
  | .dnew, _ => pure (.dct [])
  | .gl i, _ => pure (Φ.gl i)
  | .addN a b, δ => do
    let x ← denX Φ a δ
    let y ← denX Φ b δ
    addNF x y
  | .mulN a b, δ => do
    let x ← denX Φ a δ
    let y ← denX Φ b δ
    mulNF x y
  | .cutN a lo hi, δ => do
    let x ← denX Φ a δ
    let l ← denO Φ lo δ
    let h ← denO Φ hi δ
    cutNF x l h
  | .mkx e, δ => do
    let d ← denX Φ e δ
    fun s => .ok (.obj s.length) (s ++ [d])
  | .inG i no a, δ => do inGF (Φ.tb i) no (← denX Φ a δ)
  | .ixG i a, δ => do ixGF (Φ.tb i) (← denX Φ a δ)
  | .callK f as ks pm, δ => do
    let a ← denXs Φ as δ
    let c ← denXs Φ ks δ
    Φ.fn f (permD pm (a ++ c))
  | .srt a, δ => do srtF (← denX Φ a δ)
noncomputable def denXs (Φ : Fns) : List X → En → M (List D)
  | [], _ => pure []
  | a :: r, δ => do
    let x ← denX Φ a δ
    let l ← denXs Φ r δ
    pure (x :: l)
noncomputable def denAnd (Φ : Fns) : List X → En → M Bool
  | [], _ => pure true
  | a :: r, δ => do
    if ← asB (← denX Φ a δ) then denAnd Φ r δ else pure false
noncomputable def denOr (Φ : Fns) : List X → En → M Bool
  | [], _ => pure false
  | a :: r, δ => do
    if ← asB (← denX Φ a δ) then pure true else denOr Φ r δ
noncomputable def denO (Φ : Fns) : Option X → En → M (Option Int)
  | none, _ => pure none
  | some a, δ => do
    match ← denX Φ a δ with
    | .int i => pure (some i)
    | _ => M.no
end
/-- how a statement ends -/
inductive Fl where
  | nx (δ : En) | bk (δ : En) | rt (d : D)
def forL (f : D → En → M Fl) : List D → En → M Fl
  | [], δ => pure (.nx δ)
  | d :: r, δ => do
    match ← f d δ with
    | .nx δ' => forL f r δ'
    | .bk δ' => pure (.nx δ')
    | .rt v => pure (.rt v)
def whlL (c : En → M Bool) (f : En → M Fl) : Nat → En → M Fl
  | 0, _ => M.no
  | n + 1, δ => do
    if ← c δ then do
      match ← f δ with
      | .nx δ' => whlL c f n δ'
      | .bk δ' => pure (.nx δ')
      | .rt v => pure (.rt v)
    else pure (.nx δ)
def setMany : List Nat → List D → En → Option En
  | [], [], δ => some δ
  | i :: is, d :: ds, δ => if i < δ.length then setMany is ds (δ.set i (some d)) else none
  | _, _, _ => none
def setIxF (i : Nat) (o q v : D) (δ : En) : M Fl := match o, q with
  | .lst l, .int j => (match ixOf l.length j with
    | some m => pure (.nx (δ.set i (some (.lst (l.set m v)))))
    | none => M.no)
  | .dct l, q => (match keyOf q with
    | some m => if l.length < line then pure (.nx (δ.set i (some (.dct (dput l m v))))) else M.no
    | none => M.no)
  | _, _ => M.no
def setObF (o q v : D) (δ : En) : M Fl := match o with
  | .obj n => fun s => (match s[n]?, q with
    | some (.lst l), .int j => (match ixOf l.length j with
      | some m => .ok (.nx δ) (s.set n (.lst (l.set m v)))
      | none => .no)
    | some (.dct l), q => (match keyOf q with
      | some m => if l.length < line then .ok (.nx δ) (s.set n (.dct (dput l m v))) else .no
      | none => .no)
    | _, _ => .no)
  | _ => M.no
def setFF (c : Nat) (f : Str) (o v : D) (δ : En) : M Fl := match o with
  | .obj n => fun s => (match s[n]? with
    | some (.ins c' l) => if c' = c ∧ l.length < 900 then .ok (.nx δ) (s.set n (.ins c' (putA f v l))) else .no
    | _ => .no)
  | _ => M.no
def appF (i : Nat) (o v : D) (δ : En) : M Fl := match o with
  | .lst l => if l.length < line then pure (.nx (δ.set i (some (.lst (l ++ [v]))))) else M.no
  | _ => M.no
mutual
noncomputable def denS (Φ : Fns) (N : Nat) : S → En → M Fl
  | .asg t e, δ => do
    let d ← denX Φ e δ
    pure (.nx (← M.ofO (bindT t d δ)))
  | .asgI i e, δ => do
    let d ← denX Φ e δ
    if d.imm then pure (.nx (← M.ofO (bindT (.nm i) d δ))) else M.no
  | .mov j i, δ => do
    let d ← getV δ i
    if d.imm then M.no else pure (.nx (← M.ofO (bindT (.nm j) d (δ.set i none))))
  | .mk i e, δ => do
    let d ← denX Φ e δ
    fun s => match bindT (.nm i) (.obj s.length) δ with
      | some δ' => .ok (.nx δ') (s ++ [d])
      | none => .no
  | .par is es, δ => do
    let ds ← denXs Φ es δ
    pure (.nx (← M.ofO (setMany is ds δ)))
  | .setIx i k e, δ => do
    let v ← denX Φ e δ
    let o ← getV δ i
    let q ← denX Φ k δ
    setIxF i o q v δ
  | .setOb i k e, δ => do
    let v ← denX Φ e δ
    let o ← getV δ i
    let q ← denX Φ k δ
    setObF o q v δ
  | .setF i c f e, δ => do
    let v ← denX Φ e δ
    let o ← getV δ i
    setFF c f o v δ
  | .ex e, δ => do
    let _ ← denX Φ e δ
    pure (.nx δ)
  | .obT i k j e, δ => do
    let d ← denX Φ e δ
    match d with
    | .tup [a, b] => do
      let o ← getV δ i
      let q ← denX Φ k δ
      match ← setObF o q a δ with
      | .nx δ' => do pure (.nx (← M.ofO (bindT (.nm j) b δ')))
      | _ => M.no
    | _ => M.no
  | .app i e, δ => do
    let o ← getV δ i
    let v ← denX Φ e δ
    appF i o v δ
  | .iff c a b, δ => do
    if ← asB (← denX Φ c δ) then denSs Φ N a δ else denSs Φ N b δ
  | .forr t k it body, δ => do
    let ds ← denXs Φ it δ
    let items ← M.ofO (itemsOf k ds)
    forL (fun d δ' => do
      let δ'' ← M.ofO (bindT t d δ')
      denSs Φ N body δ'') items δ
  | .whl c body, δ => whlL (fun δ' => do asB (← denX Φ c δ')) (fun δ' => denSs Φ N body δ') N δ
  | .ret none, _ => pure (.rt .non)
  | .ret (some e), δ => do pure (.rt (← denX Φ e δ))
  | .retO i, δ => do
    let d ← getV δ i
    if d.imm = true then M.no else pure (.rt d)
  | .never, _ => M.no
  | .pass, δ => pure (.nx δ)
  | .brk, δ => pure (.bk δ)
noncomputable def denSs (Φ : Fns) (N : Nat) : List S → En → M Fl
  | [], δ => pure (.nx δ)
  | s :: r, δ => do
    match ← denS Φ N s δ with
    | .nx δ' => denSs Φ N r δ'
    | .bk δ' => pure (.bk δ')
    | .rt v => pure (.rt v)
end
/-- a body run at its parameters -/
def runB (F : En → M Fl) (n : Nat) (ds : List D) : M D := do
  match ← F (ds.map some ++ List.replicate (n - ds.length) none) with
  | .nx _ => pure .non
  | .bk _ => M.no
  | .rt d => pure d
/-- .. that must return -/
def runN (F : En → M Fl) (n : Nat) (ds : List D) : M D := do
  match ← F (ds.map some ++ List.replicate (n - ds.length) none) with
  | .nx _ => M.no
  | .bk _ => M.no
  | .rt d => pure d
end RF
end
section
set_option linter.all false
set_option maxRecDepth 100000
set_option maxHeartbeats 4000000
set_option autoImplicit false
/-! RfRep: how data by value stand in the model's heap, and how a step of the heap keeps them. -/
namespace RF
open PySem PySem.Spec L2
open PyProof.Rows hiding St
/-- rho: where the store's things stand; ow: the lists and dicts that a def's own slots hold and change; av: what else must not be reached -/
structure Wd where
  rho : List Addr
  ow : Nat → Option Addr
  av : Addr → Prop
def Wd.bar (ω : Wd) (a : Addr) : Prop := a ∈ ω.rho ∨ (∃ i, ω.ow i = some a) ∨ ω.av a
abbrev Wd.noOw (ω : Wd) : Wd := { ω with ow := fun _ => none }
/-- the value v is the data d. cl: where the classes stand -/
inductive Rep (K : PySem.W.Frag) (cl : Nat → Addr) (ω : Wd) (H : Hp) : V → D → Prop
  | non : Rep K cl ω H .non .non
  | bl (b : Bool) : Rep K cl ω H (.bl b) (.bl b)
  | int (i : Int) : Rep K cl ω H (.int i) (.int i)
  | str (x : Str) : Rep K cl ω H (.str x) (.str x)
  | tup {a : Addr} {vs : List V} {ds : List D} (h : PTu K H a vs) (l : vs.length = ds.length) (e : ∀ (i : Nat) (v : V) (d : D), vs[i]? = some v → ds[i]? = some d → Rep K cl ω H v d) : Rep K cl ω H (.ref a) (.tup ds)
  | lst {a : Addr} {vs : List V} {ds : List D} (h : H a = some (.lst vs)) (n : ¬ ω.bar a) (l : vs.length = ds.length) (e : ∀ (i : Nat) (v : V) (d : D), vs[i]? = some v → ds[i]? = some d → Rep K cl ω H v d) : Rep K cl ω H (.ref a) (.lst ds)
  | dct {a : Addr} {vs : List (Key × V)} {ds : List (Ky × D)} (h : H a = some (.dK vs)) (n : ¬ ω.bar a) (l : vs.length = ds.length)
      (ek : ∀ (i : Nat) (k : Key) (v : V) (q : Ky) (d : D), vs[i]? = some (k, v) → ds[i]? = some (q, d) → k = q)
      (e : ∀ (i : Nat) (k : Key) (v : V) (q : Ky) (d : D), vs[i]? = some (k, v) → ds[i]? = some (q, d) → Rep K cl ω H v d) : Rep K cl ω H (.ref a) (.dct ds)
  | ins {a dx : Addr} {c : Nat} {fs : List (Str × V)} {gs : List (Str × D)} (h : H a = some (.ins (cl c) dx fs)) (n : ¬ ω.bar a) (l : fs.length = gs.length)
      (ek : ∀ (i : Nat) (k : Str) (v : V) (q : Str) (d : D), fs[i]? = some (k, v) → gs[i]? = some (q, d) → k = q)
      (e : ∀ (i : Nat) (k : Str) (v : V) (q : Str) (d : D), fs[i]? = some (k, v) → gs[i]? = some (q, d) → Rep K cl ω H v d) : Rep K cl ω H (.ref a) (.ins c gs)
  | obj {a : Addr} {n : Nat} (h : ω.rho[n]? = some a) : Rep K cl ω H (.ref a) (.obj n)
  | frz {a : Addr} {vs : List V} {ds : List D} (h : (∃ o, H a = some (.frz o (.lst vs)) ∧ ¬ ω.bar a) ∨ SqL K (fun _ => none) a vs) (l : vs.length = ds.length) (e : ∀ (i : Nat) (v : V) (d : D), vs[i]? = some v → ds[i]? = some d → Rep K cl ω H v d) : Rep K cl ω H (.ref a) (.frz ds)
def RepL (K : PySem.W.Frag) (cl : Nat → Addr) (ω : Wd) (H : Hp) (vs : List V) (ds : List D) : Prop :=
  vs.length = ds.length ∧ ∀ (i : Nat) (v : V) (d : D), vs[i]? = some v → ds[i]? = some d → Rep K cl ω H v d
def RepK (K : PySem.W.Frag) (cl : Nat → Addr) (ω : Wd) (H : Hp) {κ : Type} (vs : List (κ × V)) (ds : List (κ × D)) : Prop :=
  vs.length = ds.length ∧ ∀ (i : Nat) (k : κ) (v : V) (q : κ) (d : D), vs[i]? = some (k, v) → ds[i]? = some (q, d) → k = q ∧ Rep K cl ω H v d
/-- what a def's own slot holds, and may change -/
def Own (K : PySem.W.Frag) (cl : Nat → Addr) (ω : Wd) (H : Hp) (a : Addr) : D → Prop
  | .lst ds => ∃ vs, H a = some (.lst vs) ∧ RepL K cl ω H vs ds
  | .dct ds => ∃ vs, H a = some (.dK vs) ∧ RepK K cl ω H vs ds
  | .ins c gs => ∃ dx fs, H a = some (.ins (cl c) dx fs) ∧ RepK K cl ω H fs gs
  | _ => False
/-- read: as data, or as what an own slot holds -/
def RepB (K : PySem.W.Frag) (cl : Nat → Addr) (ω : Wd) (H : Hp) (v : V) (d : D) : Prop :=
  Rep K cl ω H v d ∨ ∃ a i, v = .ref a ∧ ω.ow i = some a ∧ Own K cl ω H a d
structure WOk (ω : Wd) (H : Hp) : Prop where
  nd : ω.rho.Nodup
  rho : ∀ a ∈ ω.rho, H a ≠ none
  ow : ∀ i a, ω.ow i = some a → H a ≠ none ∧ a ∉ ω.rho ∧ ¬ ω.av a
  inj : ∀ i j a, ω.ow i = some a → ω.ow j = some a → i = j
  av : ∀ a, ω.av a → H a ≠ none ∧ a ∉ ω.rho
theorem WOk.bar {ω : Wd} {H : Hp} (k : WOk ω H) {a : Addr} (h : ω.bar a) : H a ≠ none := by
  rcases h with h | ⟨i, h⟩ | h
  · exact k.rho a h
  · exact (k.ow i a h).1
  · exact (k.av a h).1
/-- a step: own slots in M may have changed what they hold -/
structure GoS (M : List Nat) (ω : Wd) (H : Hp) (ω' : Wd) (H' : Hp) : Prop where
  pre : ∀ (n : Nat) (a : Addr), ω.rho[n]? = some a → ω'.rho[n]? = some a
  keep : ∀ a o, H a = some o → a ∉ ω.rho → (∀ i ∈ M, ω.ow i ≠ some a) → H' a = some o
  tup : ∀ a xs, TupP H a xs → TupP H' a xs
  new : ∀ a, H a ≠ none → a ∉ ω.rho → a ∉ ω'.rho
  own : ∀ i a, ω'.ow i = some a → ω.ow i = some a ∨ H a = none
  av : ∀ a, ω'.av a → ω.av a ∨ H a = none ∨ ∃ i, ω.ow i = some a
  dom : ∀ a, H a ≠ none → H' a ≠ none
structure Go (ω : Wd) (H : Hp) (ω' : Wd) (H' : Hp) : Prop where
  st : GoS [] ω H ω' H'
  eq : ω'.ow = ω.ow
  ea : ω'.av = ω.av
theorem GoS.refl (M : List Nat) (ω : Wd) (H : Hp) : GoS M ω H ω H := ⟨fun _ _ h => h, fun _ _ h _ _ => h, fun _ _ h => h, fun _ _ h => h, fun _ _ h => .inl h, fun _ h => .inl h, fun _ h => h⟩
theorem Go.refl (ω : Wd) (H : Hp) : Go ω H ω H := ⟨GoS.refl _ _ _, rfl, rfl⟩
theorem GoS.trans {M : List Nat} {ω ω1 ω2 : Wd} {H H1 H2 : Hp} (a : GoS M ω H ω1 H1) (b : GoS M ω1 H1 ω2 H2) : GoS M ω H ω2 H2 where
  pre := fun n c h => b.pre n c (a.pre n c h)
  keep := fun c o h n m => by
    have h1 := a.keep c o h n m
    refine b.keep c o h1 (a.new c (by rw [h]; simp) n) fun i hi q => ?_
    rcases a.own i c q with z | z
    · exact m i hi z
    · rw [h] at z; cases z
  tup := fun c xs h => b.tup c xs (a.tup c xs h)
  new := fun c h n => b.new c (a.dom c h) (a.new c h n)
  own := fun i c h => by
    rcases b.own i c h with z | z
    · exact a.own i c z
    · right
      cases q : H c with
      | none => rfl
      | some o => exact absurd z (a.dom c (by rw [q]; simp))
  av := fun c h => by
    rcases b.av c h with z | z | ⟨i, z⟩
    · exact a.av c z
    · right
      left
      cases q : H c with
      | none => rfl
      | some o => exact absurd z (a.dom c (by rw [q]; simp))
    · rcases a.own i c z with y | y
      · exact .inr (.inr ⟨i, y⟩)
      · exact .inr (.inl y)
  dom := fun c h => b.dom c (a.dom c h)
theorem GoS.mono {M M' : List Nat} {ω ω' : Wd} {H H' : Hp} (a : GoS M ω H ω' H') (h : ∀ i ∈ M, i ∈ M') : GoS M' ω H ω' H' :=
  ⟨a.pre, fun c o q n m => a.keep c o q n fun i hi => m i (h i hi), a.tup, a.new, a.own, a.av, a.dom⟩
theorem Go.trans {ω ω1 ω2 : Wd} {H H1 H2 : Hp} (a : Go ω H ω1 H1) (b : Go ω1 H1 ω2 H2) : Go ω H ω2 H2 := ⟨a.st.trans b.st, b.eq.trans a.eq, b.ea.trans a.ea⟩
theorem Go.s {ω ω' : Wd} {H H' : Hp} (a : Go ω H ω' H') (M : List Nat) : GoS M ω H ω' H' := a.st.mono fun _ h => nomatch h
section
variable {K : PySem.W.Frag} {cl : Nat → Addr} {ω ω' : Wd} {H H' : Hp} {v : V} {d : D} {M : List Nat}
theorem GoS.bar (g : GoS M ω H ω' H') {a : Addr} (h : H a ≠ none) (n : ¬ ω.bar a) : ¬ ω'.bar a := fun z => by
  rcases z with z | ⟨i, z⟩ | z
  · exact g.new a h (fun q => n (.inl q)) z
  · rcases g.own i a z with q | q
    · exact n (.inr (.inl ⟨i, q⟩))
    · exact h q
  · rcases g.av a z with q | q | ⟨i, q⟩
    · exact n (.inr (.inr q))
    · exact h q
    · exact n (.inr (.inl ⟨i, q⟩))
theorem GoS.at (g : GoS M ω H ω' H') {a : Addr} {o : HO} (h : H a = some o) (n : ¬ ω.bar a) : H' a = some o :=
  g.keep a o h (fun q => n (.inl q)) fun i _ q => n (.inr (.inl ⟨i, q⟩))
theorem GoS.ptu (g : GoS M ω H ω' H') {a : Addr} {xs : List V} (h : PTu K H a xs) : PTu K H' a xs := by
  rcases h with h | h
  · exact .inl (g.tup a xs h)
  · exact .inr h
theorem Rd.dom {a : Addr} {o : HO} (h : Rd H a o) : H a ≠ none := by
  rcases h with h | ⟨_, h⟩ <;> (rw [h]; simp)
theorem Rep.go (r : Rep K cl ω H v d) (g : GoS M ω H ω' H') : Rep K cl ω' H' v d := by
  induction r with
  | non => exact .non
  | bl b => exact .bl b
  | int i => exact .int i
  | str x => exact .str x
  | tup h l e ih => exact .tup (g.ptu h) l ih
  | lst h n l e ih => exact .lst (g.at h n) (g.bar (by rw [h]; simp) n) l ih
  | dct h n l ek e ih => exact .dct (g.at h n) (g.bar (by rw [h]; simp) n) l ek ih
  | ins h n l ek e ih => exact .ins (g.at h n) (g.bar (by rw [h]; simp) n) l ek ih
  | obj h => exact .obj (g.pre _ _ h)
  | frz h l e ih => exact .frz (h.imp (fun ⟨o, q, n⟩ => ⟨o, g.at q n, g.bar (by rw [q]; simp) n⟩) id) l ih
theorem RepL.go {vs : List V} {ds : List D} (r : RepL K cl ω H vs ds) (g : GoS M ω H ω' H') : RepL K cl ω' H' vs ds := ⟨r.1, fun i v d h1 h2 => (r.2 i v d h1 h2).go g⟩
theorem RepK.go {κ : Type} {vs : List (κ × V)} {ds : List (κ × D)} (r : RepK K cl ω H vs ds) (g : GoS M ω H ω' H') : RepK K cl ω' H' vs ds :=
  ⟨r.1, fun i k v q d h1 h2 => ⟨(r.2 i k v q d h1 h2).1, (r.2 i k v q d h1 h2).2.go g⟩⟩
/-- Rep hangs on the store's places and on what is barred alone -/
theorem Rep.as (r : Rep K cl ω H v d) (e1 : ω'.rho = ω.rho) (e2 : ∀ a, ω'.bar a → ω.bar a) : Rep K cl ω' H v d := by
  induction r with
  | non => exact .non
  | bl b => exact .bl b
  | int i => exact .int i
  | str x => exact .str x
  | tup h l e ih => exact .tup h l ih
  | lst h n l e ih => exact .lst h (fun z => n (e2 _ z)) l ih
  | dct h n l ek e ih => exact .dct h (fun z => n (e2 _ z)) l ek ih
  | ins h n l ek e ih => exact .ins h (fun z => n (e2 _ z)) l ek ih
  | obj h => exact .obj (by rw [e1]; exact h)
  | frz h l e ih => exact .frz (h.imp (fun ⟨o, q, n⟩ => ⟨o, q, fun z => n (e2 _ z)⟩) id) l ih
theorem RepL.as {vs : List V} {ds : List D} (r : RepL K cl ω H vs ds) (e1 : ω'.rho = ω.rho) (e2 : ∀ a, ω'.bar a → ω.bar a) : RepL K cl ω' H vs ds := ⟨r.1, fun i v d h1 h2 => (r.2 i v d h1 h2).as e1 e2⟩
theorem RepK.as {κ : Type} {vs : List (κ × V)} {ds : List (κ × D)} (r : RepK K cl ω H vs ds) (e1 : ω'.rho = ω.rho) (e2 : ∀ a, ω'.bar a → ω.bar a) : RepK K cl ω' H vs ds :=
  ⟨r.1, fun i k v q d h1 h2 => ⟨(r.2 i k v q d h1 h2).1, (r.2 i k v q d h1 h2).2.as e1 e2⟩⟩
theorem RepL.nil : RepL K cl ω H [] [] := ⟨rfl, fun i v d h => by simp at h⟩
theorem RepL.cons {vs : List V} {ds : List D} (h : Rep K cl ω H v d) (r : RepL K cl ω H vs ds) : RepL K cl ω H (v :: vs) (d :: ds) := by
  refine ⟨by simp [r.1], fun i v' d' h1 h2 => ?_⟩
  cases i with
  | zero => simp at h1 h2; subst h1; subst h2; exact h
  | succ i => exact r.2 i v' d' (by simpa using h1) (by simpa using h2)
theorem RepL.head {vs : List V} {ds : List D} (r : RepL K cl ω H (v :: vs) (d :: ds)) : Rep K cl ω H v d := r.2 0 v d rfl rfl
theorem RepL.tail {vs : List V} {ds : List D} (r : RepL K cl ω H (v :: vs) (d :: ds)) : RepL K cl ω H vs ds :=
  ⟨by have := r.1; simpa using this, fun i v' d' h1 h2 => r.2 (i + 1) v' d' (by simpa using h1) (by simpa using h2)⟩
theorem RepL.at {vs : List V} {ds : List D} (r : RepL K cl ω H vs ds) {i : Nat} {d : D} (h : ds[i]? = some d) : ∃ v, vs[i]? = some v ∧ Rep K cl ω H v d := by
  have hl := r.1
  have hi : i < ds.length := by
    rcases Nat.lt_or_ge i ds.length with q | q
    · exact q
    · rw [List.getElem?_eq_none q] at h; cases h
  have hv : vs[i]? = some (vs[i]'(by omega)) := by simp
  exact ⟨_, hv, r.2 i _ d hv h⟩
theorem RepL.atV {vs : List V} {ds : List D} (r : RepL K cl ω H vs ds) {i : Nat} {v : V} (h : vs[i]? = some v) : ∃ d, ds[i]? = some d ∧ Rep K cl ω H v d := by
  have hl := r.1
  have hi : i < vs.length := by
    rcases Nat.lt_or_ge i vs.length with q | q
    · exact q
    · rw [List.getElem?_eq_none q] at h; cases h
  have hv : ds[i]? = some (ds[i]'(by omega)) := by simp
  exact ⟨_, hv, r.2 i v _ h hv⟩
theorem RepL.append {vs ws : List V} {ds es : List D} (a : RepL K cl ω H vs ds) (b : RepL K cl ω H ws es) : RepL K cl ω H (vs ++ ws) (ds ++ es) := by
  refine ⟨by simp [a.1, b.1], fun i v d h1 h2 => ?_⟩
  have hl := a.1
  by_cases hi : i < vs.length
  · rw [List.getElem?_append_left hi] at h1
    rw [List.getElem?_append_left (by omega)] at h2
    exact a.2 i v d h1 h2
  · rw [List.getElem?_append_right (by omega)] at h1
    rw [List.getElem?_append_right (by omega), ← hl] at h2
    exact b.2 _ v d h1 h2
theorem RepL.drop {vs : List V} {ds : List D} (r : RepL K cl ω H vs ds) (n : Nat) : RepL K cl ω H (vs.drop n) (ds.drop n) :=
  ⟨by simp [r.1], fun i v d h1 h2 => r.2 (n + i) v d (by simpa using h1) (by simpa using h2)⟩
theorem RepL.take {vs : List V} {ds : List D} (r : RepL K cl ω H vs ds) (n : Nat) : RepL K cl ω H (vs.take n) (ds.take n) := by
  refine ⟨by simp [r.1], fun i v d h1 h2 => ?_⟩
  rw [List.getElem?_take] at h1 h2
  split at h1
  · rename_i hi
    rw [if_pos hi] at h2
    exact r.2 i v d h1 h2
  · cases h1
theorem RepL.set {vs : List V} {ds : List D} (r : RepL K cl ω H vs ds) (h : Rep K cl ω H v d) (n : Nat) : RepL K cl ω H (vs.set n v) (ds.set n d) := by
  refine ⟨by simp [r.1], fun i v' d' h1 h2 => ?_⟩
  by_cases e : n = i
  · subst e
    have hl := r.1
    rw [List.getElem?_set] at h1 h2
    rw [if_pos rfl] at h1 h2
    split at h1
    · split at h2
      · cases h1; cases h2; exact h
      · cases h2
    · cases h1
  · rw [List.getElem?_set_ne e] at h1 h2
    exact r.2 i v' d' h1 h2
theorem Own.go {a : Addr} (r : Own K cl ω H a d) (g : GoS M ω H ω' H') (h : H' a = H a) : Own K cl ω' H' a d := by
  cases d with
  | lst ds =>
    obtain ⟨vs, q, r⟩ := r
    exact ⟨vs, h.trans q, r.go g⟩
  | dct ds =>
    obtain ⟨vs, q, r⟩ := r
    exact ⟨vs, h.trans q, r.go g⟩
  | ins c gs =>
    obtain ⟨dx, fs, q, r⟩ := r
    exact ⟨dx, fs, h.trans q, r.go g⟩
  | _ => exact r.elim
theorem Own.dom {a : Addr} (r : Own K cl ω H a d) : H a ≠ none := by
  cases d with
  | lst ds => obtain ⟨vs, q, _⟩ := r; rw [q]; simp
  | dct ds => obtain ⟨vs, q, _⟩ := r; rw [q]; simp
  | ins c gs => obtain ⟨dx, fs, q, _⟩ := r; rw [q]; simp
  | _ => exact r.elim
/-- what an own slot holds, given away -/
theorem Own.rep {a : Addr} (r : Own K cl ω H a d) (e1 : ω'.rho = ω.rho) (e2 : ∀ b, ω'.bar b → ω.bar b) (n : ¬ ω'.bar a) : Rep K cl ω' H (.ref a) d := by
  cases d with
  | lst ds =>
    obtain ⟨vs, q, r⟩ := r
    exact .lst q n r.1 (r.as e1 e2).2
  | dct ds =>
    obtain ⟨vs, q, r⟩ := r
    exact .dct q n r.1 (fun i k v q d h1 h2 => (r.2 i k v q d h1 h2).1) fun i k v q d h1 h2 => ((r.as e1 e2).2 i k v q d h1 h2).2
  | ins c gs =>
    obtain ⟨dx, fs, q, r⟩ := r
    exact .ins q n r.1 (fun i k v q d h1 h2 => (r.2 i k v q d h1 h2).1) fun i k v q d h1 h2 => ((r.as e1 e2).2 i k v q d h1 h2).2
  | _ => exact r.elim
theorem RepB.go (r : RepB K cl ω H v d) (g : Go ω H ω' H') (k : WOk ω H) : RepB K cl ω' H' v d := by
  rcases r with r | ⟨a, i, e, h, r⟩
  · exact .inl (r.go g.st)
  · refine .inr ⟨a, i, e, by rw [g.eq]; exact h, r.go g.st ?_⟩
    cases q : H a with
    | none => exact absurd q (k.ow i a h).1
    | some o => exact g.st.keep a o q (k.ow i a h).2.1 fun _ z => nomatch z
/-- a list or a tuple read -/
theorem RepB.lstH {ds : List D} (r : RepB K cl ω H v (.lst ds)) : ∃ a vs, v = .ref a ∧ H a = some (.lst vs) ∧ RepL K cl ω H vs ds := by
  rcases r with r | ⟨a, i, e, h, vs, q, r⟩
  · cases r with
    | lst h n l e => exact ⟨_, _, rfl, h, l, e⟩
  · exact ⟨a, vs, e, q, r⟩
theorem RepB.seqL {ds : List D} (r : RepB K cl ω H v (.lst ds)) : ∃ a vs, v = .ref a ∧ SqL K H a vs ∧ RepL K cl ω H vs ds := by
  obtain ⟨a, vs, e, q, r⟩ := r.lstH
  exact ⟨a, vs, e, .inl (.inl q), r⟩
theorem RepB.seqF {ds : List D} (r : RepB K cl ω H v (.frz ds)) : ∃ a vs, v = .ref a ∧ SqL K H a vs ∧ RepL K cl ω H vs ds := by
  rcases r with r | ⟨a, i, e, h, z⟩
  · cases r with
    | frz h l e =>
      refine ⟨_, _, rfl, ?_, l, e⟩
      rcases h with ⟨o, q, n⟩ | h
      · exact .inl (.inr ⟨o, q⟩)
      · rcases h with (h | ⟨o, h⟩) | h
        · cases h
        · cases h
        · exact .inr h
  · exact z.elim
theorem RepB.dctH {ds : List (Ky × D)} (r : RepB K cl ω H v (.dct ds)) : ∃ a vs, v = .ref a ∧ H a = some (.dK vs) ∧ RepK K cl ω H vs ds := by
  rcases r with r | ⟨a, i, e, h, vs, q, r⟩
  · cases r with
    | dct h n l ek e => exact ⟨_, _, rfl, h, l, fun i k v q d h1 h2 => ⟨ek i k v q d h1 h2, e i k v q d h1 h2⟩⟩
  · exact ⟨a, vs, e, q, r⟩
theorem Rep.ptu {ds : List D} (r : Rep K cl ω H v (.tup ds)) : ∃ a vs, v = .ref a ∧ PTu K H a vs ∧ RepL K cl ω H vs ds := by
  cases r with
  | tup h l e => exact ⟨_, _, rfl, h, l, e⟩
theorem Rep.seqT {ds : List D} (r : Rep K cl ω H v (.tup ds)) : ∃ a vs, v = .ref a ∧ SqT K H a vs ∧ RepL K cl ω H vs ds :=
  let ⟨a, vs, e, h, q⟩ := r.ptu
  ⟨a, vs, e, h.sqT, q⟩
theorem RepB.tup {ds : List D} (r : RepB K cl ω H v (.tup ds)) : Rep K cl ω H v (.tup ds) := by
  rcases r with r | ⟨a, i, e, h, z⟩
  · exact r
  · exact z.elim
theorem RepB.int {i : Int} (r : RepB K cl ω H v (.int i)) : v = .int i := by
  rcases r with r | ⟨a, j, e, h, z⟩
  · cases r; rfl
  · exact z.elim
theorem RepB.str {x : Str} (r : RepB K cl ω H v (.str x)) : v = .str x := by
  rcases r with r | ⟨a, j, e, h, z⟩
  · cases r; rfl
  · exact z.elim
theorem RepB.bl {b : Bool} (r : RepB K cl ω H v (.bl b)) : v = .bl b := by
  rcases r with r | ⟨a, j, e, h, z⟩
  · cases r; rfl
  · exact z.elim
theorem RepB.non (r : RepB K cl ω H v .non) : v = .non := by
  rcases r with r | ⟨a, j, e, h, z⟩
  · cases r; rfl
  · exact z.elim
end
/-! ### a new object -/
section
variable {K : PySem.W.Frag} {cl : Nat → Addr} {ω : Wd} {H : Hp} {p : Addr} {o : HO}
theorem Go.upd' (ω : Wd) (hp : H p = none) : Go ω H ω (upd H p o) := by
  refine ⟨⟨fun _ _ h => h, fun a u h n _ => ?_, fun a xs h => ?_, fun _ _ h => h, fun _ _ h => .inl h, fun _ h => .inl h, fun a h => ?_⟩, rfl, rfl⟩
  · rw [upd_ne (ne_of_none h hp)]; exact h
  · obtain ⟨u, h, hd⟩ := h
    exact ⟨u, by rw [upd_ne (ne_of_none h hp)]; exact h, hd⟩
  · by_cases e : a = p
    · subst e; exact absurd hp h
    · rw [upd_ne e]; exact h
theorem Go.upd (hp : H p = none) (k : WOk ω H) : Go ω H ω (upd H p o) := Go.upd' ω hp
theorem WOk.upd (hp : H p = none) (k : WOk ω H) : WOk ω (upd H p o) := by
  have d : ∀ a, H a ≠ none → L2.upd H p o a ≠ none := fun a h => by
    by_cases e : a = p
    · subst e; exact absurd hp h
    · rw [upd_ne e]; exact h
  exact ⟨k.nd, fun a h => d a (k.rho a h), fun i a h => ⟨d a (k.ow i a h).1, (k.ow i a h).2⟩, k.inj, fun a h => ⟨d a (k.av a h).1, (k.av a h).2⟩⟩
theorem WOk.fresh (k : WOk ω H) (hp : H p = none) : ¬ ω.bar p := fun z => k.bar z hp
end
end RF
end
section
set_option linter.all false
set_option maxRecDepth 100000
set_option maxHeartbeats 4000000
set_option autoImplicit false
/-! RfSnd1: the judgements, and operators. -/
namespace RF
open PySem PySem.Spec L2
open PyProof.Rows hiding St
section
variable (K : PySem.W.Frag) (cl : Nat → Addr)
def RepF (b : Bool) (ω : Wd) (H : Hp) (v : V) (d : D) : Prop := match b with
  | false => Rep K cl ω H v d
  | true => RepB K cl ω H v d
inductive RepFL (b : Bool) (ω : Wd) (H : Hp) : List V → List D → Prop
  | nil : RepFL b ω H [] []
  | cons {v : V} {d : D} {vs : List V} {ds : List D} (h : RepF K cl b ω H v d) (r : RepFL b ω H vs ds) : RepFL b ω H (v :: vs) (d :: ds)
structure StoOk (ω : Wd) (H : Hp) (S : Sto) : Prop where
  len : ω.rho.length = S.length
  obj : ∀ (n : Nat) (a : Addr) (d : D), ω.rho[n]? = some a → S[n]? = some d → Own K cl ω H a d
structure SR (own : List Nat) (ω : Wd) (σ : St) (H : Hp) (δ : En) (S : Sto) : Prop where
  len : σ.length = δ.length
  wok : WOk ω H
  slot : ∀ (i : Nat) (d : D), δ[i]? = some (some d) → i ∉ own → ∃ v, σ[i]? = some (some v) ∧ Rep K cl ω H v d
  osl : ∀ (i : Nat) (d : D), δ[i]? = some (some d) → i ∈ own → (∃ a, σ[i]? = some (some (.ref a)) ∧ ω.ow i = some a ∧ Own K cl ω H a d) ∨ (d.imm = true ∧ ∃ v, σ[i]? = some (some v) ∧ Rep K cl ω H v d)
  sto : StoOk K cl ω H S
variable (own : List Nat)
/-- what a run that ends so is to reach -/
def pG {α γ : Type} (R : Wd → Hp → γ → α → Prop) (ω : Wd) (H : Hp) (σ : St) (δ : En) (Q : γ → Hp → Prop) : Out α → Prop
  | .ok a S' => ∀ ω' g H', Go ω H ω' H' → SR K cl own ω' σ H' δ S' → R ω' H' g a → Q g H'
  | _ => False
def tG {α γ : Type} (R : Wd → Hp → γ → α → Prop) (f : En → M α) : St → Hp → (γ → Hp → Prop) → Prop := fun σ H Q =>
  ∃ ω δ S, SR K cl own ω σ H δ S ∧ pG K cl own R ω H σ δ Q (f δ S)
abbrev tE (b : Bool) (f : En → M D) : TE := tG K cl own (RepF K cl b) f
abbrev tT (f : En → M Bool) : TT := tG K cl own (fun _ _ (c c' : Bool) => c = c') f
abbrev tA (b : Bool) (f : En → M (List D)) : TA := tG K cl own (RepFL K cl b) f
abbrev tO (f : En → M (Option Int)) : TO := tG K cl own (fun _ _ (c c' : Option Int) => c = c') f
end
section
variable {K : PySem.W.Frag} {cl : Nat → Addr} {own : List Nat} {ω ω' ω1 : Wd} {H H' H1 : Hp} {σ : St} {δ : En} {S S' : Sto} {p : Addr} {o : HO}
theorem StoOk.go (s : StoOk K cl ω H S) (g : GoS [] ω H ω' H') (e : ω'.rho = ω.rho) (h : ∀ a ∈ ω.rho, H' a = H a) : StoOk K cl ω' H' S :=
  ⟨by rw [e]; exact s.len, fun n a d h1 h2 => by
    rw [e] at h1
    exact (s.obj n a d h1 h2).go g (h a (List.mem_of_getElem? h1))⟩
theorem SR.upd (s : SR K cl own ω σ H δ S) (hp : H p = none) : SR K cl own ω σ (L2.upd H p o) δ S := by
  have g := Go.upd (o := o) hp s.wok
  have e : ∀ a, H a ≠ none → L2.upd H p o a = H a := fun a h => upd_ne (fun z => h (by rw [z]; exact hp))
  refine ⟨s.len, s.wok.upd hp, fun i d h1 h2 => ?_, fun i d h1 h2 => ?_, s.sto.go g.st rfl fun a h => e a (s.wok.rho a h)⟩
  · obtain ⟨v, q, r⟩ := s.slot i d h1 h2
    exact ⟨v, q, r.go g.st⟩
  · rcases s.osl i d h1 h2 with ⟨a, q, r, z⟩ | ⟨hm, v, q, r⟩
    · exact .inl ⟨a, q, r, z.go g.st (e a (s.wok.ow i a r).1)⟩
    · exact .inr ⟨hm, v, q, r.go g.st⟩
theorem pG.go {α γ : Type} {R : Wd → Hp → γ → α → Prop} {Q : γ → Hp → Prop} {x : Out α} (h : pG K cl own R ω H σ δ Q x) (g : Go ω H ω1 H1) : pG K cl own R ω1 H1 σ δ Q x := by
  cases x with
  | ok a s => exact fun ω' q H' g' S' r => h ω' q H' (g.trans g') S' r
  | exc e s => exact h.elim
  | no => exact h.elim
theorem pG_bind {α β γ γ' : Type} {R : Wd → Hp → γ → α → Prop} {R' : Wd → Hp → γ' → β → Prop} {f : M α} {k : α → M β} {Q : γ' → Hp → Prop} {T : γ → Hp → Prop} (h : pG K cl own R' ω H σ δ Q ((f >>= k) S))
    (hk : ∀ (ω' : Wd) (g : γ) (H' : Hp) (a : α) (S' : Sto), Go ω H ω' H' → SR K cl own ω' σ H' δ S' → R ω' H' g a → pG K cl own R' ω' H' σ δ Q (k a S') → T g H') : pG K cl own R ω H σ δ T (f S) := by
  rw [M.bind_run] at h
  cases e : f S with
  | ok a s =>
    rw [e] at h
    exact fun ω' g H' go sr r => hk ω' g H' a s go sr r (pG.go h go)
  | exc x s => rw [e] at h; exact h.elim
  | no => rw [e] at h; exact h.elim
theorem RepF.b {b : Bool} {v : V} {d : D} (r : RepF K cl b ω H v d) : RepB K cl ω H v d := by
  cases b with
  | false => exact .inl r
  | true => exact r
theorem RepF.of {b : Bool} {v : V} {d : D} (r : Rep K cl ω H v d) : RepF K cl b ω H v d := by
  cases b with
  | false => exact r
  | true => exact .inl r
theorem RepF.go {b : Bool} {v : V} {d : D} (r : RepF K cl b ω H v d) (g : Go ω H ω' H') (k : WOk ω H) : RepF K cl b ω' H' v d := by
  cases b with
  | false => exact Rep.go r g.st
  | true => exact RepB.go r g k
theorem RepFL.go {b : Bool} {vs : List V} {ds : List D} (r : RepFL K cl b ω H vs ds) (g : Go ω H ω' H') (k : WOk ω H) : RepFL K cl b ω' H' vs ds := by
  induction r with
  | nil => exact .nil
  | cons h r ih => exact .cons (h.go g k) ih
theorem RepFL.l {vs : List V} {ds : List D} (r : RepFL K cl false ω H vs ds) : RepL K cl ω H vs ds := by
  induction r with
  | nil => exact RepL.nil
  | cons h r ih => exact RepL.cons h ih
/-- nothing happens, d is told -/
theorem pG.ret {b : Bool} {Q : VK} {v : V} {d : D} (h : pG K cl own (RepF K cl b) ω H σ δ Q (.ok d S)) (s : SR K cl own ω σ H δ S) (r : Rep K cl ω H v d) : Q v H := h ω v H (Go.refl _ _) s (RepF.of r)
/-- a new object, d is told -/
theorem pG.new {b : Bool} {Q : VK} {d : D} (h : pG K cl own (RepF K cl b) ω H σ δ Q (.ok d S)) (s : SR K cl own ω σ H δ S) (hp : H p = none)
    (r : Rep K cl ω (L2.upd H p o) (.ref p) d) : Q (.ref p) (L2.upd H p o) := h ω (.ref p) _ (Go.upd hp s.wok) (s.upd hp) (RepF.of r)
theorem RepL.upd {vs : List V} {ds : List D} (r : RepL K cl ω H vs ds) (hp : H p = none) (k : WOk ω H) : RepL K cl ω (L2.upd H p o) vs ds := r.go (Go.upd hp k).st
theorem Rep.newL {vs : List V} {ds : List D} (r : RepL K cl ω H vs ds) (hp : H p = none) (k : WOk ω H) : Rep K cl ω (L2.upd H p (.lst vs)) (.ref p) (.lst ds) :=
  .lst upd_same (k.fresh hp) r.1 (r.upd hp k).2
theorem Rep.newT {vs : List V} {ds : List D} {ob : Obj} (r : RepL K cl ω H vs ds) (hp : H p = none) (hd : ob.dict = none) (k : WOk ω H) : Rep K cl ω (L2.upd H p (.frz ob (.tup vs))) (.ref p) (.tup ds) :=
  .tup (.inl ⟨ob, upd_same, hd⟩) r.1 (r.upd hp k).2
theorem line_eq : line = sizeLine := by rw [sizeLine_eq]; rfl
end
/-- a weaker wish ahead -/
theorem _root_.L2.PE.imp {X : Cx} {e : Expr} {t t' : TE} (h : PE X e t) (k : ∀ σ H Q, t' σ H Q → t σ H Q) : PE X e t' := ⟨fun pins s σ H Q I q => h.run pins s σ H Q I (k σ H Q q)⟩
theorem _root_.L2.PT.imp {X : Cx} {e : Expr} {t t' : TT} (h : PT X e t) (k : ∀ σ H Q, t' σ H Q → t σ H Q) : PT X e t' := ⟨fun pins s σ H Q I q => h.run pins s σ H Q I (k σ H Q q)⟩
theorem _root_.L2.PW.imp {X : Cx} {e : Expr} {t t' : TT} (h : PW X e t) (k : ∀ σ H Q, t' σ H Q → t σ H Q) : PW X e t' := ⟨fun wh pins s σ H Q I q => h.run wh pins s σ H Q I (k σ H Q q)⟩
theorem _root_.L2.PA.imp {X : Cx} {es : List Expr} {t t' : TA} (h : PA X es t) (k : ∀ σ H Q, t' σ H Q → t σ H Q) : PA X es t' := ⟨fun pos pins s σ H Q I q => h.run pos pins s σ H Q I (k σ H Q q)⟩
theorem _root_.L2.PO.imp {X : Cx} {e : Option Expr} {t t' : TO} (h : PO X e t) (k : ∀ σ H Q, t' σ H Q → t σ H Q) : PO X e t' := ⟨fun pins s σ H Q I q => h.run pins s σ H Q I (k σ H Q q)⟩
theorem _root_.L2.PS.imp {X : Cx} {e : Stmt} {t t' : TS} (h : PS X e t) (k : ∀ D σ H, t' D σ H → t D σ H) : PS X e t' := ⟨fun pins s σ H D I q => h.run pins s σ H D I (k D σ H q)⟩
theorem _root_.L2.PSs.imp {X : Cx} {e : List Stmt} {t t' : TS} (h : PSs X e t) (k : ∀ D σ H, t' D σ H → t D σ H) : PSs X e t' := ⟨fun pins s σ H D I q => h.run pins s σ H D I (k D σ H q)⟩
theorem _root_.L2.PI.imp {X : Cx} {tg e : Expr} {t t' : TI} (h : PI X tg e t) (k : ∀ σ H R, t' σ H R → t σ H R) : PI X tg e t' := ⟨fun pins s σ H R I q => h.run pins s σ H R I (k σ H R q)⟩
theorem _root_.L2.PI.or {X : Cx} {tg e : Expr} {t t' : TI} (h : PI X tg e t) (h' : PI X tg e t') : PI X tg e (fun σ H R => t σ H R ∨ t' σ H R) :=
  ⟨fun pins s σ H R I q => q.elim (fun z => h.run pins s σ H R I z) fun z => h'.run pins s σ H R I z⟩
theorem _root_.L2.PE.or {X : Cx} {e : Expr} {t t' : TE} (h : PE X e t) (h' : PE X e t') : PE X e (fun σ H Q => t σ H Q ∨ t' σ H Q) :=
  ⟨fun pins s σ H Q I q => q.elim (fun z => h.run pins s σ H Q I z) fun z => h'.run pins s σ H Q I z⟩
theorem _root_.L2.PE.ex {ι : Type} {X : Cx} {e : Expr} {t : ι → TE} (h : ∀ i, PE X e (t i)) : PE X e (fun σ H Q => ∃ i, t i σ H Q) :=
  ⟨fun pins s σ H Q I q => q.elim fun i z => (h i).run pins s σ H Q I z⟩
/-! ### operators -/
section
variable {X : Cx} {cl : Nat → Addr} {own : List Nat} {ω : Wd} {H : Hp} {σ : St} {δ : En} {S : Sto}
def bopOf : Bop → Operator
  | .add => .Add | .sub => .Sub | .mul => .Mult | .fdiv => .FloorDiv | .mod => .Mod | .pow => .Pow
def rAddA (K : PySem.W.Frag) : R2 := fun x y H Q => rI0 (fun i j => .int (i + j)) x y H Q ∨ (∃ i j, x = .str i ∧ y = .str j ∧ i.length + j.length ≤ sizeLine ∧ Q (.str (i ++ j)) H) ∨ rCat x y H Q ∨ rCatF K x y H Q
/-- * of two factors of together less than four million bits -/
def CMulB (i j : Int) : Prop := i.natAbs.log2 + j.natAbs.log2 < 4000000
theorem CMulB.ok {i j : Int} (h : CMulB i j) : IntMulOk i j := by
  have b : ∀ x : Int, Builtin.Int.intBits x ≤ x.natAbs.log2 + 1 := fun x => by
    unfold Builtin.Int.intBits
    split <;> omega
  have h1 := b i
  have h2 := b j
  have h3 : i.natAbs.log2 + j.natAbs.log2 < 4000000 := h
  have e : bitsLine = 134217728 := by decide
  unfold IntMulOk
  intro z
  rw [Bool.and_eq_true] at z
  have z2 := z.2
  unfold Builtin.Int.intTooBig at z2
  have z3 := of_decide_eq_true z2
  rw [e] at z3
  omega
theorem op_mulB {X : Cx} : OpR X (binaryOp .Mult) (rI CMulB fun i j => .int (i * j)) := opI fun _ _ _ _ _ _ _ hc q => mul_int q hc.ok
def rMulA (K : PySem.W.Frag) : R2 := fun x y H Q => rI CMulB (fun i j => .int (i * j)) x y H Q ∨ rRep x y H Q ∨ rRepF K x y H Q
def rBin (K : PySem.W.Frag) : Bop → R2
  | .add => rAddA K
  | .sub => rI0 fun i j => .int (i - j)
  | .mul => rMulA K
  | .fdiv => rI CDivW fun i j => .int (i / j)
  | .mod => rI (fun _ j => 0 < j) fun i j => .int (i % j)
  | .pow => rI CPow fun i j => .int (i ^ j.toNat)
theorem op_bin (op : Bop) : OpR X (binaryOp (bopOf op)) (rBin X.K op) := by
  cases op with
  | add => exact op_add.or (op_add_str.or (op_cat.or op_catF))
  | sub => exact op_sub
  | mul => exact op_mulB.or (op_rep.or op_repF)
  | fdiv => exact op_fdivW
  | mod => exact op_mod
  | pow => exact op_pow
end
end RF
end
section
set_option linter.all false
set_option maxRecDepth 100000
set_option maxHeartbeats 4000000
set_option autoImplicit false
/-! RfSnd2: what the operators give. -/
namespace RF
open PySem PySem.Spec L2
open PyProof.Rows hiding St
mutual
theorem py_can : ∀ d : D, D.plain d = true → (D.py d).canLay0 = true
  | .non, _ => rfl
  | .bl _, _ => rfl
  | .int _, _ => rfl
  | .str x, h => h
  | .tup l, h => by
    have := pys_can l (by simpa [D.plain] using h)
    simpa [D.py, PyData.canLay0] using this
  | .lst l, h => by
    have := pys_can l (by simpa [D.plain] using h)
    simpa [D.py, PyData.canLay0] using this
  | .dct _, h => by simp [D.plain] at h
  | .ins _ _, h => by simp [D.plain] at h
  | .obj _, h => by simp [D.plain] at h
  | .frz _, h => by simp [D.plain] at h
theorem pys_can : ∀ l : List D, D.plains l = true → PyData.canLayAll0 (D.pys l) = true
  | [], _ => rfl
  | d :: r, h => by
    have h' : D.plain d = true ∧ D.plains r = true := by simpa [D.plains] using h
    simp only [D.pys, PyData.canLayAll0, py_can d h'.1, pys_can r h'.2, Bool.and_self]
end
mutual
theorem py_depth : ∀ d : D, D.plain d = true → (D.py d).depth = D.deep d
  | .non, _ => rfl
  | .bl _, _ => rfl
  | .int _, _ => rfl
  | .str x, h => rfl
  | .tup l, h => by
    have := pys_depth l (by simpa [D.plain] using h)
    simp only [D.py, PyData.depth, D.deep, this]
  | .lst l, h => by
    have := pys_depth l (by simpa [D.plain] using h)
    simp only [D.py, PyData.depth, D.deep, this]
  | .dct _, h => by simp [D.plain] at h
  | .ins _ _, h => by simp [D.plain] at h
  | .obj _, h => by simp [D.plain] at h
  | .frz _, h => by simp [D.plain] at h
theorem pys_depth : ∀ l : List D, D.plains l = true → PyData.depthAll (D.pys l) = D.deeps l
  | [], _ => rfl
  | d :: r, h => by
    have h' : D.plain d = true ∧ D.plains r = true := by simpa [D.plains] using h
    simp only [D.pys, PyData.depthAll, D.deeps, py_depth d h'.1, pys_depth r h'.2]
end
theorem py_shaped {d : D} (h : D.plain d = true) (k : D.deep d ≤ 60) : SeqAt.shaped (D.py d) = true := by
  unfold SeqAt.shaped
  rw [py_can d h, py_depth d h]
  simp
  omega
mutual
theorem py_eqv : ∀ d e : D, D.plain d = true → D.plain e = true → PyData.eqv (D.py d) (D.py e) = D.eqv d e
  | .tup l, e, h, k => by
    cases e with
    | tup m =>
      have := pys_eqv l m (by simpa [D.plain] using h) (by simpa [D.plain] using k)
      simpa only [D.py, PyData.eqv, D.eqv] using this
    | dct _ => simp [D.plain] at k
    | ins _ _ => simp [D.plain] at k
    | obj _ => simp [D.plain] at k
    | frz _ => simp [D.plain] at k
    | _ => simp [D.py, PyData.eqv, D.eqv]
  | .lst l, e, h, k => by
    cases e with
    | lst m =>
      have := pys_eqv l m (by simpa [D.plain] using h) (by simpa [D.plain] using k)
      simpa only [D.py, PyData.eqv, D.eqv] using this
    | dct _ => simp [D.plain] at k
    | ins _ _ => simp [D.plain] at k
    | obj _ => simp [D.plain] at k
    | frz _ => simp [D.plain] at k
    | _ => simp [D.py, PyData.eqv, D.eqv]
  | .non, e, _, k => by cases e <;> first | (simp [D.plain] at k; done) | simp [D.py, PyData.eqv, D.eqv]
  | .bl _, e, _, k => by cases e <;> first | (simp [D.plain] at k; done) | simp [D.py, PyData.eqv, D.eqv]
  | .int _, e, _, k => by cases e <;> first | (simp [D.plain] at k; done) | simp [D.py, PyData.eqv, D.eqv]
  | .str _, e, _, k => by cases e <;> first | (simp [D.plain] at k; done) | simp [D.py, PyData.eqv, D.eqv]
  | .dct _, _, h, _ => by simp [D.plain] at h
  | .ins _ _, _, h, _ => by simp [D.plain] at h
  | .obj _, _, h, _ => by simp [D.plain] at h
  | .frz _, _, h, _ => by simp [D.plain] at h
theorem pys_eqv : ∀ l m : List D, D.plains l = true → D.plains m = true → PyData.eqvAll (D.pys l) (D.pys m) = D.eqvs l m
  | [], [], _, _ => by simp [D.pys, PyData.eqvAll, D.eqvs]
  | [], _ :: _, _, _ => by simp [D.pys, PyData.eqvAll, D.eqvs]
  | _ :: _, [], _, _ => by simp [D.pys, PyData.eqvAll, D.eqvs]
  | d :: r, e :: t, h, k => by
    have h' : D.plain d = true ∧ D.plains r = true := by simpa [D.plains] using h
    have k' : D.plain e = true ∧ D.plains t = true := by simpa [D.plains] using k
    simp only [D.pys, PyData.eqvAll, D.eqvs, py_eqv d e h'.1 k'.1, pys_eqv r t h'.2 k'.2]
end
section
variable {K : PySem.W.Frag} {cl : Nat → Addr} {ω : Wd} {H : Hp} {v : V} {d : D}
theorem dpAll {vs : List V} : ∀ {ds : List D}, vs.length = ds.length → D.plains ds = true → (∀ (i : Nat) (v : V) (d : D), vs[i]? = some v → ds[i]? = some d → D.plain d = true → Dp K H v (D.py d)) → DpAll K H vs (D.pys ds) := by
  induction vs with
  | nil =>
    intro ds l _ _
    cases ds with
    | nil => exact .nil
    | cons _ _ => simp at l
  | cons v vs ih =>
    intro ds l p f
    cases ds with
    | nil => simp at l
    | cons d ds =>
      have p' : D.plain d = true ∧ D.plains ds = true := by simpa [D.plains] using p
      exact .cons (f 0 v d rfl rfl p'.1) (ih (by simpa using l) p'.2 fun i v' d' h1 h2 => f (i + 1) v' d' (by simpa using h1) (by simpa using h2))
theorem Rep.dp (r : Rep K cl ω H v d) (h : D.plain d = true) : Dp K H v (D.py d) := by
  induction r with
  | non => exact .non
  | bl b => exact .bl b
  | int i => exact .int i
  | str x => exact .str x
  | tup q l e ih => exact .tup q.sqT (dpAll l (by simpa [D.plain] using h) fun i v d h1 h2 h3 => ih i v d h1 h2 h3)
  | lst q n l e ih => exact .lst (.inl (.inl q)) (dpAll l (by simpa [D.plain] using h) fun i v d h1 h2 h3 => ih i v d h1 h2 h3)
  | dct q n l ek e ih => simp [D.plain] at h
  | ins q n l ek e ih => simp [D.plain] at h
  | obj q => simp [D.plain] at h
  | frz q l e ih => simp [D.plain] at h
theorem RepB.dp (r : RepB K cl ω H v d) (h : D.plain d = true) : Dp K H v (D.py d) := by
  rcases r with r | ⟨a, i, e, q, z⟩
  · exact r.dp h
  · cases d with
    | lst ds =>
      obtain ⟨vs, z, r⟩ := z
      subst e
      exact .lst (.inl (.inl z)) (dpAll r.1 (by simpa [D.plain] using h) fun i v d h1 h2 h3 => (r.2 i v d h1 h2).dp h3)
    | dct _ => simp [D.plain] at h
    | ins _ _ => simp [D.plain] at h
    | _ => exact z.elim
theorem Rep.flat (r : Rep K cl ω H v d) (h : D.flat d = true) : flatV v = true := by
  cases r <;> first | rfl | (cases h; done)
theorem RepL.flat {vs : List V} {ds : List D} (r : RepL K cl ω H vs ds) (h : ds.all D.flat = true) : vs.all flatV = true := by
  rw [List.all_eq_true] at h ⊢
  intro v hv
  obtain ⟨i, hi⟩ := List.getElem?_of_mem hv
  obtain ⟨d, hd, q⟩ := r.atV hi
  exact q.flat (h d (List.mem_of_getElem? hd))
theorem Rep.eqV {w : V} {e : D} (r : Rep K cl ω H v d) (q : Rep K cl ω H w e) (h : D.flat d = true) (k : D.flat e = true) : L2.eqV v w = D.eqv d e := by
  cases r <;> first
    | (cases h; done)
    | (cases q <;> first
        | (cases k; done)
        | simp [L2.eqV, D.eqv])
theorem any_rep {w : V} {e : D} (q : Rep K cl ω H w e) (k : D.flat e = true) : ∀ {vs : List V} {ds : List D}, RepL K cl ω H vs ds → ds.all D.flat = true → vs.any (fun y => L2.eqV y w) = ds.any fun y => D.eqv y e := by
  intro vs
  induction vs with
  | nil =>
    intro ds r _
    cases ds with
    | nil => rfl
    | cons _ _ => have := r.1; simp at this
  | cons v vs ih =>
    intro ds r h
    cases ds with
    | nil => have := r.1; simp at this
    | cons d ds =>
      have h' : D.flat d = true ∧ ds.all D.flat = true := by simpa using h
      rw [List.any_cons, List.any_cons, ih r.tail h'.2, r.head.eqV q h'.1 k]
end
/-! ### the rules -/
section
variable {X : Cx} {K : PySem.W.Frag} {cl : Nat → Addr} {own : List Nat} {ω : Wd} {H : Hp} {σ : St} {δ : En} {S : Sto} {x y : V} {d e : D} {Q : VK}
theorem bin_ok {b : Bool} (op : Bop) (s : SR K cl own ω σ H δ S) (rx : RepB K cl ω H x d) (ry : RepB K cl ω H y e) (h : pG K cl own (RepF K cl b) ω H σ δ Q (binD op d e S)) : rBin K op x y H Q := by
  cases op with
  | add =>
    cases d with
    | int i =>
      cases e with
      | int j => exact .inl ⟨i, j, rx.int, ry.int, h.ret s (.int _)⟩
      | _ => exact h.elim
    | str i =>
      cases e with
      | str j =>
        by_cases hz : i.length + j.length ≤ line
        · simp only [binD, if_pos hz] at h
          exact .inr (.inl ⟨i, j, rx.str, ry.str, by rw [← line_eq]; exact hz, h.ret s (.str _)⟩)
        · simp only [binD, if_neg hz] at h
          exact h.elim
      | _ => exact h.elim
    | lst i =>
      cases e with
      | lst j =>
        by_cases hz : i.length + j.length ≤ line
        · simp only [binD, if_pos hz] at h
          obtain ⟨a, vs, rfl, ha, ra⟩ := rx.lstH
          obtain ⟨c, ws, rfl, hc, rc⟩ := ry.lstH
          exact .inr (.inr (.inl ⟨a, c, vs, ws, rfl, rfl, ha, hc, by rw [← line_eq, ra.1, rc.1]; exact hz, fun p hp => h.new s hp (Rep.newL (ra.append rc) hp s.wok)⟩))
        · simp only [binD, if_neg hz] at h
          exact h.elim
      | _ => exact h.elim
    | tup i =>
      cases e with
      | tup j =>
        by_cases hz : i.length + j.length ≤ line
        · simp only [binD, if_pos hz] at h
          have qx := rx.tup
          have qy := ry.tup
          obtain ⟨a, vs, rfl, ha, ra⟩ := qx.seqT
          obtain ⟨c, ws, rfl, hc, rc⟩ := qy.seqT
          refine .inr (.inr (.inr ⟨a, c, vs, ws, rfl, rfl, ha, hc, by rw [← line_eq, ra.1, rc.1]; exact hz, fun z => ?_, fun _ z => ?_, fun _ _ p ob hp hd => h.new s hp (Rep.newT (ra.append rc) hp hd s.wok)⟩))
          · have e0 : i = [] := by have := ra.1; rw [z] at this; exact List.length_eq_zero_iff.mp this.symm
            subst e0
            exact h.ret s qy
          · have e0 : j = [] := by have := rc.1; rw [z] at this; exact List.length_eq_zero_iff.mp this.symm
            subst e0
            rw [List.append_nil] at h
            exact h.ret s qx
        · simp only [binD, if_neg hz] at h
          exact h.elim
      | _ => exact h.elim
    | _ => exact h.elim
  | sub =>
    cases d with
    | int i =>
      cases e with
      | int j => exact ⟨i, j, rx.int, ry.int, h.ret s (.int _)⟩
      | _ => exact h.elim
    | _ => exact h.elim
  | mul =>
    cases d with
    | int i =>
      cases e with
      | int j =>
        by_cases hz : mulOk i j = true
        · simp only [binD, if_pos hz] at h
          exact .inl ⟨i, j, rx.int, ry.int, (show i.natAbs.log2 + j.natAbs.log2 < 4000000 by simpa [mulOk] using hz), h.ret s (.int _)⟩
        · simp only [binD, if_neg hz] at h
          exact h.elim
      | _ => exact h.elim
    | lst i =>
      cases e with
      | int j =>
        by_cases hz : i.length * j.toNat ≤ 1000000 ∧ j < 1000000 ∧ -1000000 < j
        · simp only [binD, if_pos hz] at h
          obtain ⟨a, vs, rfl, ha, ra⟩ := rx.lstH
          have lz : (1000000 : Nat) ≤ sizeLine := by rw [sizeLine_eq]; decide
          refine .inr (.inl ⟨a, j, vs, rfl, ry.int, ha, by omega, by omega, by rw [ra.1]; omega, fun p hp => h.new s hp (Rep.newL ?_ hp s.wok)⟩)
          generalize j.toNat = n
          induction n with
          | zero => exact RepL.nil
          | succ n ih => exact ra.append ih
        · simp only [binD, if_neg hz] at h
          exact h.elim
      | _ => exact h.elim
    | tup i =>
      cases e with
      | int j =>
        by_cases hz : i.length ≠ 0 ∧ 0 ≤ j ∧ j ≤ 1000 ∧ i.length ≤ 1000
        · simp only [binD, if_pos hz] at h
          obtain ⟨a, vs, rfl, ha, ra⟩ := rx.tup.seqT
          refine .inr (.inr ⟨a, j, vs, rfl, ry.int, ha, fun z => hz.1 (by rw [← ra.1, z]; rfl), hz.2.1, hz.2.2.1, by rw [ra.1]; exact hz.2.2.2, fun _ p ob hp hd => h.new s hp (Rep.newT ?_ hp hd s.wok), fun j1 => ?_⟩)
          · generalize j.toNat = n
            induction n with
            | zero => exact RepL.nil
            | succ n ih => exact ra.append ih
          · subst j1
            have e1 : (List.replicate (1 : Int).toNat i).flatten = i := by
              show (List.replicate 1 i).flatten = i
              simp
            rw [e1] at h
            exact h.ret s rx.tup
        · simp only [binD, if_neg hz] at h
          exact h.elim
      | _ => exact h.elim
    | _ => exact h.elim
  | fdiv =>
    cases d with
    | int i =>
      cases e with
      | int j =>
        by_cases hz : divOk j = true
        · simp only [binD, if_pos hz] at h
          have z : 0 < j ∧ j.natAbs.log2 < 9000 := by simpa [divOk] using hz
          exact ⟨i, j, rx.int, ry.int, z, h.ret s (.int _)⟩
        · simp only [binD, if_neg hz] at h
          exact h.elim
      | _ => exact h.elim
    | _ => exact h.elim
  | mod =>
    cases d with
    | int i =>
      cases e with
      | int j =>
        by_cases hz : 0 < j
        · simp only [binD, if_pos hz] at h
          exact ⟨i, j, rx.int, ry.int, hz, h.ret s (.int _)⟩
        · simp only [binD, if_neg hz] at h
          exact h.elim
      | _ => exact h.elim
    | _ => exact h.elim
  | pow =>
    cases d with
    | int i =>
      cases e with
      | int j =>
        by_cases hz : powOk i j = true
        · simp only [binD, if_pos hz] at h
          have z : 0 ≤ j ∧ j ≤ 1000000 ∧ i.natAbs < 2 ^ 64 := by simpa [powOk] using hz
          exact ⟨i, j, rx.int, ry.int, z, h.ret s (.int _)⟩
        · simp only [binD, if_neg hz] at h
          exact h.elim
      | _ => exact h.elim
    | _ => exact h.elim
end
end RF
end
section
set_option linter.all false
set_option maxRecDepth 100000
set_option maxHeartbeats 4000000
set_option autoImplicit false
/-! RfNeD: None != a dict. -/
namespace RF
open PySem PySem.Spec L2
open PyProof.Rows hiding St
section
variable {P : Program} {w : World} {A : Around} {E : Value → Shared → Prop} {s : Shared}
theorem dict_ne_declines {b : Addr} (hb : s.TypeIs (.ref b) "dict") {Q : Value → Shared → Prop} (h : Q .notImplemented s) : wpAny (model P w) A (call (.builtin "dict.__ne__") [.ref b, .none]) Q E s := by
  refine wpAny_call_entry PySem.F.slot_dict_ne hb PySem.F.entry_dict_ne ?_ (PySem.F.args_dict_ne_2 _ _)
  show wpAny _ _ (Builtin.Dict.dictSlotArgs "__ne__" ⟨[.ref b, .none], []⟩ >>= _) _ _ s
  refine wpAny_bind ?_
  unfold Builtin.Dict.dictSlotArgs
  refine wpAny_bind (wpAny_notOrdered_dict hb ?_)
  show wpAny _ _ (pure (Value.ref b, Value.none)) _ _ s
  refine wpAny_pure ?_
  refine wpAny_bind (wpAny_isInstance (T := "NoneType") (v := .none) rfl PySem.F.sub_NoneType_dict ?_)
  simp only [Bool.not_false, if_true]
  refine wpAny_bind (wpAny_rule ?_)
  exact wpAny_pure ⟨_, rfl, h⟩
theorem ne_none_dict {b : Addr} (hb : s.TypeIs (.ref b) "dict") (hu : A.units < cLine) {Q : Value → Shared → Prop} (h : Q (.bool true) s) : wpAny (model P w) A (compareOp .NotEq .none (.ref b)) Q E s := by
  show wpAny (model P w) A (richCompare .NotEq .none (.ref b)) Q E s
  exact SeqAt.rc_ne_decline_or (k := false) rfl hb (by decide) PySem.F.sub_dict_NoneType PySem.F.slot_NoneType_ne PySem.F.slot_dict_ne_refl
    (fun _ hq => call_gives PySem.F.slot_NoneType_ne rfl PySem.F.entry_NoneType_ne (PySem.F.args_NoneType_ne_2 _ _) (SeqAt.NoneType___ne___none_ref_0 b) hq)
    (fun _ hq => dict_ne_declines hb hq)
    (fun _ hq => wpAny_of_eq (rfl : isSame .none (.ref b) = pure false) hq) (.inr hu) h
end
end RF
end
section
set_option linter.all false
set_option maxRecDepth 100000
set_option maxHeartbeats 4000000
set_option autoImplicit false
/-! RfSnd3: comparisons, items, slices. -/
namespace RF
open PySem PySem.Spec L2
open PyProof.Rows hiding St
/-! ### pairs of a dict -/
section
variable {K : PySem.W.Frag} {cl : Nat → Addr} {ω : Wd} {H : Hp}
theorem RepK.tail {κ : Type} {p : κ × V} {q : κ × D} {vs : List (κ × V)} {ds : List (κ × D)} (r : RepK K cl ω H (p :: vs) (q :: ds)) : RepK K cl ω H vs ds :=
  ⟨by have := r.1; simpa using this, fun i k v j d h1 h2 => r.2 (i + 1) k v j d (by simpa using h1) (by simpa using h2)⟩
theorem RepK.head {κ : Type} {p : κ × V} {q : κ × D} {vs : List (κ × V)} {ds : List (κ × D)} (r : RepK K cl ω H (p :: vs) (q :: ds)) : p.1 = q.1 ∧ Rep K cl ω H p.2 q.2 := r.2 0 p.1 p.2 q.1 q.2 rfl rfl
theorem RepK.nil {κ : Type} : RepK K cl ω H ([] : List (κ × V)) ([] : List (κ × D)) := ⟨rfl, fun i k v q d h => by simp at h⟩
theorem RepK.cons {κ : Type} {p : κ × V} {q : κ × D} {vs : List (κ × V)} {ds : List (κ × D)} (e : p.1 = q.1) (h : Rep K cl ω H p.2 q.2) (r : RepK K cl ω H vs ds) : RepK K cl ω H (p :: vs) (q :: ds) := by
  refine ⟨by simp [r.1], fun i k v j d h1 h2 => ?_⟩
  cases i with
  | zero => simp at h1 h2; subst h1; subst h2; exact ⟨e, h⟩
  | succ i => exact r.2 i k v j d (by simpa using h1) (by simpa using h2)
theorem RepK.cases_on {κ : Type} {vs : List (κ × V)} {ds : List (κ × D)} (r : RepK K cl ω H vs ds) : (vs = [] ∧ ds = []) ∨ ∃ p q vr dr, vs = p :: vr ∧ ds = q :: dr ∧ p.1 = q.1 ∧ Rep K cl ω H p.2 q.2 ∧ RepK K cl ω H vr dr := by
  cases vs with
  | nil => cases ds with
    | nil => exact .inl ⟨rfl, rfl⟩
    | cons _ _ => have := r.1; simp at this
  | cons p vr => cases ds with
    | nil => have := r.1; simp at this
    | cons q dr => exact .inr ⟨p, q, vr, dr, rfl, rfl, r.head.1, r.head.2, r.tail⟩
theorem RepK.val (k : Ky) : ∀ {vs : List (Key × V)} {ds : List (Ky × D)}, RepK K cl ω H vs ds → (valV vs k = none ∧ dget ds k = none) ∨ ∃ v d, valV vs k = some v ∧ dget ds k = some d ∧ Rep K cl ω H v d := by
  intro vs
  induction vs with
  | nil =>
    intro ds r
    rcases r.cases_on with ⟨_, rfl⟩ | ⟨p, q, vr, dr, e, _⟩
    · exact .inl ⟨rfl, rfl⟩
    · cases e
  | cons p vs ih =>
    intro ds r
    rcases r.cases_on with ⟨e, _⟩ | ⟨p', q, vr, dr, e, rfl, e1, r1, r2⟩
    · cases e
    · cases e
      obtain ⟨q1, q2⟩ := q
      unfold dget
      by_cases z : q1 = k
      · rw [if_pos z, valV_pos (e1.trans z)]
        exact .inr ⟨_, _, rfl, rfl, r1⟩
      · rw [if_neg z, valV_neg (fun y => z (e1.symm.trans y))]
        exact ih r2
theorem RepK.any {k : Ky} : ∀ {vs : List (Key × V)} {ds : List (Ky × D)}, RepK K cl ω H vs ds → (vs.any fun p => decide (p.1 = k)) = (ds.any fun p => decide (p.1 = k)) := by
  intro vs
  induction vs with
  | nil =>
    intro ds r
    rcases r.cases_on with ⟨_, rfl⟩ | ⟨p, q, vr, dr, e, _⟩
    · rfl
    · cases e
  | cons p vs ih =>
    intro ds r
    rcases r.cases_on with ⟨e, _⟩ | ⟨p', q, vr, dr, e, rfl, e1, r1, r2⟩
    · cases e
    · cases e
      rw [List.any_cons, List.any_cons, ih r2, e1]
theorem RepK.map {k : Ky} {v : V} {d : D} (rv : Rep K cl ω H v d) : ∀ {vs : List (Key × V)} {ds : List (Ky × D)}, RepK K cl ω H vs ds → RepK K cl ω H (vs.map fun p => if p.1 = k then (p.1, v) else p) (ds.map fun p => if p.1 = k then (p.1, d) else p) := by
  intro vs
  induction vs with
  | nil =>
    intro ds r
    rcases r.cases_on with ⟨_, rfl⟩ | ⟨p, q, vr, dr, e, _⟩
    · exact RepK.nil
    · cases e
  | cons p vs ih =>
    intro ds r
    rcases r.cases_on with ⟨e, _⟩ | ⟨p', q, vr, dr, e, rfl, e1, r1, r2⟩
    · cases e
    · cases e
      rw [List.map_cons, List.map_cons]
      by_cases z : p.1 = k
      · rw [if_pos z, if_pos (by rw [← e1]; exact z)]
        exact RepK.cons e1 rv (ih r2)
      · rw [if_neg z, if_neg (by rw [← e1]; exact z)]
        exact RepK.cons e1 r1 (ih r2)
theorem RepK.append {vs ws : List (Key × V)} {ds es : List (Ky × D)} (a : RepK K cl ω H vs ds) (b : RepK K cl ω H ws es) : RepK K cl ω H (vs ++ ws) (ds ++ es) := by
  refine ⟨by simp [a.1, b.1], fun i k v q d h1 h2 => ?_⟩
  have hl := a.1
  by_cases hi : i < vs.length
  · rw [List.getElem?_append_left hi] at h1
    rw [List.getElem?_append_left (by omega)] at h2
    exact a.2 i k v q d h1 h2
  · rw [List.getElem?_append_right (by omega)] at h1
    rw [List.getElem?_append_right (by omega), ← hl] at h2
    exact b.2 _ k v q d h1 h2
theorem RepK.put {k : Ky} {v : V} {d : D} (rv : Rep K cl ω H v d) {vs : List (Key × V)} {ds : List (Ky × D)} (r : RepK K cl ω H vs ds) : RepK K cl ω H (putK vs k v) (dput ds k d) := by
  unfold putK dput
  have e := r.any (k := k)
  by_cases z : (ds.any fun p => decide (p.1 = k)) = true
  · rw [if_pos z, if_pos (by rw [← z, ← e])]
    exact r.map rv
  · rw [if_neg z, if_neg (by rw [e]; exact z)]
    exact r.append (RepK.cons rfl rv RepK.nil)
end
/-! ### comparisons -/
section
variable {X : Cx}
def copOf : Cop → CmpOp
  | .eq => .Eq | .ne => .NotEq | .lt => .Lt | .le => .LtE | .gt => .Gt | .ge => .GtE | .isN => .Is | .notN => .IsNot | .inn => .In | .nin => .NotIn
/-- == of two dicts, value by value as data -/
def rDct (K : PySem.W.Frag) (f : Bool → Bool) : R2 := fun x y H Q => ∃ a b ks ls r, x = .ref a ∧ y = .ref b ∧ H a = some (.dK ks) ∧ H b = some (.dK ls) ∧
  (∀ (A : Around) (s : Shared) (va vb : List (Key × Value)), A.units + 64 < cLine → KV ks va → KV ls vb → (∀ v u d e, RelV v u → Dp K H v d → SeqAt.shaped d = true → ∀ v' u', RelV v' u' → Dp K H v' e → SeqAt.shaped e = true → SeqAt.EqAt A s u u' (PyData.eqv d e)) → PySem.W.KeqHits A s vb va r) ∧
  Q (.bl (f (ks.length == ls.length && r))) H
theorem eqAt_dp {pins : List (Addr × Obj)} {σ : St} {H : Hp} {s : Shared} (I : Inv X pins σ H s) {A : Around} (hu : A.units + 64 < cLine) : ∀ v u d e, RelV v u → Dp X.K H v d → SeqAt.shaped d = true → ∀ v' u', RelV v' u' → Dp X.K H v' e → SeqAt.shaped e = true → SeqAt.EqAt A s u u' (PyData.eqv d e) := by
  intro v u d e r p z v' u' r' p' z'
  obtain ⟨as, q⟩ := p.reads I d v u r
  obtain ⟨bs, q'⟩ := p'.reads I e v' u' r'
  exact SeqAt.eqAt_reads d e A s u u' as bs q q' (SeqAt.canLay_of_shaped z) (SeqAt.canLay_of_shaped z') (SeqAt.room_of_shaped z hu)
theorem op_dctEq (hu : X.A.units + 128 < cLine) : OpR X (compareOp .Eq) (rDct X.K id) := by
  intro pins s σ H x y v u Q I rx ry h
  obtain ⟨a, b, ks, ls, r, rfl, rfl, ea, eb, hh, q⟩ := h
  cases rx
  cases ry
  obtain ⟨_, ya, va, ra, da⟩ := (show ObjOk X.prog X.w H s.heap a (.dK ks) from I.hok a _ ea)
  obtain ⟨_, yb, vb, rb, db⟩ := (show ObjOk X.prog X.w H s.heap b (.dK ls) from I.hok b _ eb)
  have hu1 : X.A.in1.units + 64 < cLine := by
    have : X.A.in1.units = X.A.units + 1 := rfl
    omega
  refine PySem.W.keq_eq (knd := mixKind X.prog X.w) (r := r) ya yb da db (by omega) (fun _ => hh _ s va vb hu1 ra rb (eqAt_dp I hu1)) (fin_bl I q ?_)
  rw [ra.length, rb.length]
  rfl
theorem op_dctNe (hu : X.A.units + 128 < cLine) : OpR X (compareOp .NotEq) (rDct X.K not) := by
  intro pins s σ H x y v u Q I rx ry h
  obtain ⟨a, b, ks, ls, r, rfl, rfl, ea, eb, hh, q⟩ := h
  cases rx
  cases ry
  obtain ⟨_, ya, va, ra, da⟩ := (show ObjOk X.prog X.w H s.heap a (.dK ks) from I.hok a _ ea)
  obtain ⟨_, yb, vb, rb, db⟩ := (show ObjOk X.prog X.w H s.heap b (.dK ls) from I.hok b _ eb)
  have hu1 : X.A.in1.units + 64 < cLine := by
    have : X.A.in1.units = X.A.units + 1 := rfl
    omega
  refine PySem.W.keq_ne (knd := mixKind X.prog X.w) (r := r) ya yb da db (by omega) (fun _ => hh _ s va vb hu1 ra rb (eqAt_dp I hu1)) (fin_bl I q ?_)
  rw [ra.length, rb.length]
def rNeND : R2 := fun x y H Q => x = .non ∧ ∃ b ls, y = .ref b ∧ H b = some (.dK ls) ∧ Q (.bl true) H
theorem op_neND (hu : X.A.units + 128 < cLine) : OpR X (compareOp .NotEq) rNeND := by
  intro pins s σ H x y v u Q I rx ry h
  obtain ⟨rfl, b, ls, rfl, eb, q⟩ := h
  cases rx
  cases ry
  obtain ⟨_, yb, vb, rb, db⟩ := (show ObjOk X.prog X.w H s.heap b (.dK ls) from I.hok b _ eb)
  exact ne_none_dict db.typeIs (by omega) (fin_bl I q rfl)
def rDin (f : Bool → Bool) : R2 := fun x y H Q => ∃ a o, y = .ref a ∧ DGet H a x o ∧ Q (.bl (f o.isSome)) H
theorem op_din (hu : X.A.units + 1 < cLine) : OpR X (compareOp .In) (rDin id) := by
  intro pins s σ H x y v u Q I rx ry h
  obtain ⟨a, o, rfl, g, q⟩ := h
  cases ry
  exact d_in hu I g rx fun s' I' => ⟨.bl _, H, I', rfl, q⟩
theorem op_dnin (hu : X.A.units + 1 < cLine) : OpR X (compareOp .NotIn) (rDin not) := by
  intro pins s σ H x y v u Q I rx ry h
  obtain ⟨a, o, rfl, g, q⟩ := h
  cases ry
  exact d_notIn hu I g rx fun s' I' => ⟨.bl _, H, I', rfl, q⟩
def rSgn (f : Bool → Bool) : R2 := fun x y H Q => ∃ (c : Nat) (z : Str), x = .str ⟨#[c]⟩ ∧ y = .str z ∧ Q (.bl (f (decide (c ∈ z.cps.toList)))) H
/-- dicts of unlike lengths are unlike, whatever they hold -/
theorem eqAt_len {K1 : Type} [DecidableEq K1] {prog : Program} {w : World} {knd : KeyKind prog w K1} {A : Around} {s : Shared} {a b : Addr} {ka kb : List (K1 × Value)} (hne : a ≠ b) (ha : (a == sysModules) = false) (hb : (b == sysModules) = false)
    (da : s.heap.DictOf knd a ka) (db : s.heap.DictOf knd b kb) (hu : A.units < cLine) (hl : ka.length ≠ kb.length) : SeqAt.EqAt A s (.ref a) (.ref b) false := by
  intro P W E Q hq
  have ta := da.typeIs
  have tb := db.typeIs
  obtain ⟨oa, es, _, h1, _, h2, _, h3, _⟩ := da
  obtain ⟨ob, fs, _, h4, _, h5, _, h6, _⟩ := db
  have l1 : ka.length = es.size := h3.length.symm.trans Array.length_toList
  have l2 : kb.length = fs.size := h6.length.symm.trans Array.length_toList
  have l3 : (es.size != fs.size) = true := by rw [← l1, ← l2]; simpa using hl
  refine SeqAt.EqIn.of_refs hne (fun E' Q' hq' => wpAny_richCompare_same_room (op := .Eq) ta tb PySem.F.slot_dict_eq (wpAny_call_entry PySem.F.slot_dict_eq ta PySem.F.entry_dict_eq ?_ (PySem.F.args_dict_eq_2 _ _)) hu) E Q hq
  show wpAny _ _ (Builtin.Dict.dictSlotArgs _ ⟨[.ref a, .ref b], []⟩ >>= _) _ _ _
  unfold Builtin.Dict.dictSlotArgs
  refine wpAny_bind (wpAny_bind (wpAny_notOrdered_dict ta (wpAny_pure (wpAny_bind (wpAny_isInstance (T := "dict") tb PySem.F.sub_dict_dict ?_)))))
  simp only [Bool.not_true, Bool.false_eq_true, if_false]
  refine wpAny_bind (wpAny_pure (wpAny_bind (wpAny_pure (wpAny_bind ?_))))
  unfold Builtin.Dict.samePairs Builtin.Dict.showsAll
  rw [if_neg (by rw [ha]; decide), if_neg (by rw [hb]; decide)]
  refine wpAny_bind (wpAny_pure (wpAny_bind (wpAny_pure (wpAny_bind (wpAny_dictEntries h1 h2 ?_)))))
  dsimp only
  refine wpAny_bind (wpAny_dictEntries h4 h5 ?_)
  rw [if_pos l3]
  exact wpAny_bind (wpAny_rule (wpAny_pure (wpAny_pure ⟨_, rfl, (fun z => nomatch z), hq'⟩)))
/-- in, for data of any depth -/
def rInP (K : PySem.W.Frag) (f : Bool → Bool) : R2 := fun x y H Q => ∃ d ds, Dp K H x d ∧ Dp K H y (.list ds) ∧ SeqAt.shaped d = true ∧ SeqAt.shaped (.list ds) = true ∧ Q (.bl (f (ds.any fun z => PyData.eqv z d))) H
/-- {} in dicts that are not empty -/
def rInE (K : PySem.W.Frag) (f : Bool → Bool) : R2 := fun x y H Q => ∃ b p xs, x = .ref b ∧ H b = some (.dK []) ∧ y = .ref p ∧ SqL K H p xs ∧ (∀ z ∈ xs, ∃ a k ks, z = V.ref a ∧ H a = some (.dK (k :: ks))) ∧ Q (.bl (f false)) H
theorem emp_at {pins : List (Addr × Obj)} {σ : St} {H : Hp} {s : Shared} (I : Inv X pins σ H s) (hu : X.A.units + 128 < cLine) {b : Addr} (eb : H b = some (.dK [])) {xs : List V} {us : List Value} (rv : Vals xs us) (h : ∀ z ∈ xs, ∃ a k ks, z = V.ref a ∧ H a = some (.dK (k :: ks))) :
    ∀ u ∈ us, SeqAt.EqAt X.A.in1 s u (.ref b) false := by
  induction rv with
  | nil => exact fun u hu => nomatch hu
  | @cons z u zs us r t ih =>
    intro u' hu'
    rcases List.mem_cons.mp hu' with e | e
    · subst e
      obtain ⟨a, k, ks, rfl, ea⟩ := h z (List.mem_cons_self ..)
      cases r
      obtain ⟨_, ya, va, ra, da⟩ := (show ObjOk X.prog X.w H s.heap a (.dK (k :: ks)) from I.hok a _ ea)
      obtain ⟨_, yb, vb, rb, db⟩ := (show ObjOk X.prog X.w H s.heap b (.dK []) from I.hok b _ eb)
      have l1 := ra.length
      have l2 := rb.length
      refine eqAt_len (knd := mixKind X.prog X.w) (fun z => ?_) ya yb da db (by show X.A.units + 1 < cLine; omega) ?_
      · subst z
        rw [ea] at eb
        cases eb
      · simp at l1 l2
        omega
    · exact ih (fun z hz => h z (List.mem_cons_of_mem _ hz)) u' e
theorem op_inE (hu : X.A.units + 128 < cLine) : OpR X (compareOp .In) (rInE X.K id) := by
  intro pins s σ H x y v u Q I rx ry h
  obtain ⟨b, p, xs, rfl, eb, rfl, hq, hz, q⟩ := h
  cases rx
  cases ry
  obtain ⟨its, rv, hl, _⟩ := I.list hq
  refine SeqAt.in_listAt (fun _ => false) hl.isList (fun z hz' => emp_at I hu eb rv hz z (by simpa using hz')) ⟨.bl _, H, I, rfl, ?_⟩
  have e : (its.toArray.any fun _ => false) = false := by simp
  rw [e]
  exact q
theorem op_notInE (hu : X.A.units + 128 < cLine) : OpR X (compareOp .NotIn) (rInE X.K not) := by
  intro pins s σ H x y v u Q I rx ry h
  obtain ⟨b, p, xs, rfl, eb, rfl, hq, hz, q⟩ := h
  cases rx
  cases ry
  obtain ⟨its, rv, hl, _⟩ := I.list hq
  refine SeqAt.notIn_listAt (fun _ => false) hl.isList (fun z hz' => emp_at I hu eb rv hz z (by simpa using hz')) ⟨.bl _, H, I, rfl, ?_⟩
  have e : (its.toArray.any fun _ => false) = false := by simp
  rw [e]
  exact q
def rLt : R2 := fun x y H Q => rI0 (fun i j => .bl (decide (i < j))) x y H Q ∨ ∃ i j, x = .str i ∧ y = .str j ∧ Q (.bl (decide (i.cps.toList < j.cps.toList))) H
def rCmp (K : PySem.W.Frag) : Cop → R2
  | .eq => fun x y H Q => rEq x y H Q ∨ rEqD K x y H Q ∨ rDct K id x y H Q
  | .ne => fun x y H Q => rNe x y H Q ∨ rNeD K x y H Q ∨ rDct K not x y H Q ∨ rNeND x y H Q
  | .lt => rLt
  | .le => rI0 fun i j => .bl (decide (i ≤ j))
  | .gt => rI0 fun i j => .bl (decide (j < i))
  | .ge => rI0 fun i j => .bl (decide (j ≤ i))
  | .isN => fun x y H Q => y = .non ∧ Q (.bl (decide (x = .non))) H
  | .notN => fun x y H Q => y = .non ∧ Q (.bl (!decide (x = .non))) H
  | .inn => fun x y H Q => rIn K false x y H Q ∨ rSgn id x y H Q ∨ rDin id x y H Q ∨ rInP K id x y H Q ∨ rInE K id x y H Q
  | .nin => fun x y H Q => rIn K true x y H Q ∨ rSgn not x y H Q ∨ rDin not x y H Q ∨ rInP K not x y H Q ∨ rInE K not x y H Q
theorem op_cmp (hu : X.A.units + 128 < cLine) (op : Cop) : OpR X (compareOp (copOf op)) (rCmp X.K op) := by
  cases op with
  | eq => exact op_eq.or ((op_eqD (by omega)).or (op_dctEq hu))
  | ne => exact op_ne.or ((op_neD (by omega)).or ((op_dctNe hu).or (op_neND hu)))
  | lt => exact op_lt.or op_lt_str
  | le => exact op_le
  | gt => exact op_gt
  | ge => exact op_ge
  | isN => exact op_isN
  | notN => exact op_notN
  | inn => exact op_in_seq.or (OpR.or op_in_sign ((op_din (by omega)).or (OpR.or (op_inD (by omega)) (op_inE hu))))
  | nin => exact op_notIn_seq.or (OpR.or op_notIn_sign ((op_dnin (by omega)).or (OpR.or (op_notInD (by omega)) (op_notInE hu))))
variable {K : PySem.W.Frag} {cl : Nat → Addr} {own : List Nat} {ω : Wd} {H : Hp} {σ : St} {δ : En} {S : Sto} {x y : V} {d e : D} {Q : VK}
theorem okEq_of {a b : D} (h : okEq a b = true) : (D.plain a = true ∧ D.deep a ≤ 60) ∧ D.plain b = true ∧ D.deep b ≤ 60 := by
  simpa [okEq] using h
theorem RepB.notNon (r : RepB K cl ω H x d) : decide (x = V.non) = d.isNon := by
  rcases r with r | ⟨a, i, rfl, _, z⟩
  · cases r <;> simp [D.isNon]
  · cases d <;> first | exact z.elim | simp [D.isNon]
theorem dct_hits {ks ls : List (Key × V)} {l m : List (Ky × D)} (rl : RepK K cl ω H ks l) (rm : RepK K cl ω H ls m) (hl : plainV l = true) (hm : plainV m = true) (A : Around) (s : Shared) {vb : List (Key × Value)} (rb : KV ls vb)
    (f : ∀ v u d e, RelV v u → Dp K H v d → SeqAt.shaped d = true → ∀ v' u', RelV v' u' → Dp K H v' e → SeqAt.shaped e = true → SeqAt.EqAt A s u u' (PyData.eqv d e)) :
    ∀ {va : List (Key × Value)}, KV ks va → PySem.W.KeqHits A s vb va (l.all fun p => (match dget m p.1 with
      | some v => D.eqv p.2 v
      | none => false)) := by
  induction ks generalizing l with
  | nil =>
    intro va ra
    rcases rl.cases_on with ⟨_, rfl⟩ | ⟨p, q, vr, dr, e, _⟩
    · cases ra; exact .nil
    · cases e
  | cons p ks ih =>
    intro va ra
    rcases rl.cases_on with ⟨e, _⟩ | ⟨p', q, vr, dr, e, rfl, e1, r1, r2⟩
    · cases e
    · cases e
      obtain ⟨p1, p2⟩ := p
      obtain ⟨q1, q2⟩ := q
      simp only at e1
      subst e1
      cases ra with
      | @cons _ u _ us r3 r4 =>
      obtain ⟨u1, u2⟩ := u
      obtain ⟨e3, r3⟩ := r3
      simp only at e3
      subst e3
      have hq : (D.plain q2 = true ∧ D.deep q2 ≤ 60) ∧ plainV dr = true := by
        simpa [plainV] using hl
      rw [List.all_cons]
      rcases rm.val p1 with ⟨z1, z2⟩ | ⟨v, d, z1, z2, rv⟩
      · simp only [z2, Bool.false_and]
        refine .miss ?_
        have := rb.val p1
        rw [z1] at this
        exact RelO.none_of this
      · simp only [z2]
        have hvb := rb.val p1
        rw [z1] at hvb
        obtain ⟨y, hy, ry⟩ := RelO.some_of hvb
        have hd : D.plain d = true ∧ D.deep d ≤ 60 := by
          have hm' := List.all_eq_true.mp hm
          have mem : ∀ (m : List (Ky × D)), dget m p1 = some d → ∃ p ∈ m, p.2 = d := by
            intro m
            induction m with
            | nil => intro h; cases h
            | cons c m ihm =>
              intro h
              unfold dget at h
              split at h
              · cases h; exact ⟨_, List.mem_cons_self, rfl⟩
              · obtain ⟨c', h1, h2⟩ := ihm h; exact ⟨c', List.mem_cons_of_mem _ h1, h2⟩
          obtain ⟨c, hc, rfl⟩ := mem m z2
          simpa using hm' c hc
        have := f p2 u2 (D.py q2) (D.py d) r3 (r1.dp hq.1.1) (py_shaped hq.1.1 hq.1.2) v y ry (rv.dp hd.1) (py_shaped hd.1 hd.2)
        rw [py_eqv q2 d hq.1.1 hd.1] at this
        exact .hit hy this (ih r2 hq.2 r4)
theorem eq_gen {b : Bool} (f : Bool → Bool) (s : SR K cl own ω σ H δ S) (rx : RepB K cl ω H x d) (ry : RepB K cl ω H y e) (h : pG K cl own (RepF K cl b) ω H σ δ Q ((if okEq d e = true then (pure (.bl (f (D.eqv d e))) : M D) else M.no) S)) :
    ∃ d' e', Dp K H x d' ∧ Dp K H y e' ∧ SeqAt.shaped d' = true ∧ SeqAt.shaped e' = true ∧ Q (.bl (f (PyData.eqv d' e'))) H := by
  by_cases hz : okEq d e = true
  · rw [if_pos hz] at h
    obtain ⟨⟨p1, p2⟩, p3, p4⟩ := okEq_of hz
    refine ⟨_, _, rx.dp p1, ry.dp p3, py_shaped p1 p2, py_shaped p3 p4, ?_⟩
    rw [py_eqv d e p1 p3]
    exact h.ret s (.bl _)
  · rw [if_neg hz] at h
    exact h.elim
theorem dct_gen {b : Bool} (f : Bool → Bool) {l m : List (Ky × D)} (s : SR K cl own ω σ H δ S) (rx : RepB K cl ω H x (.dct l)) (ry : RepB K cl ω H y (.dct m)) (h : pG K cl own (RepF K cl b) ω H σ δ Q ((if (plainV l && plainV m) = true then (pure (.bl (f (dctEq l m))) : M D) else M.no) S)) :
    rDct K f x y H Q := by
  by_cases hz : (plainV l && plainV m) = true
  · rw [if_pos hz] at h
    obtain ⟨h1, h2⟩ := Bool.and_eq_true_iff.mp hz
    obtain ⟨a, ks, rfl, ha, ra⟩ := rx.dctH
    obtain ⟨c, ls, rfl, hc, rc⟩ := ry.dctH
    refine ⟨a, c, ks, ls, _, rfl, rfl, ha, hc, fun A t va vb hu r1 r2 g => dct_hits ra rc h1 h2 A t r2 g r1, ?_⟩
    have := h.ret s (.bl _)
    unfold dctEq at this
    rw [ra.1, rc.1]
    exact this
  · rw [if_neg hz] at h
    exact h.elim
theorem in_ok {b : Bool} (f : Bool → Bool) {neg : Bool} (hf : ∀ c, f c = if neg then !c else c) (s : SR K cl own ω σ H δ S) (rx : RepB K cl ω H x d) (ry : RepB K cl ω H y e)
    (h : pG K cl own (RepF K cl b) ω H σ δ Q (match inD S d e with
      | some r => .ok (.bl (f r)) S
      | none => .no)) : rIn K neg x y H Q ∨ rSgn f x y H Q ∨ rDin f x y H Q ∨ rInP K f x y H Q ∨ rInE K f x y H Q := by
  have flatx : D.flat d = true → Rep K cl ω H x d := fun z => by
    rcases rx with r | ⟨a, i, rfl, _, z'⟩
    · exact r
    · cases d <;> first | exact z'.elim | cases z
  cases e with
  | lst l =>
    simp only [inD] at h
    by_cases hz : (D.flat d && l.all D.flat) = true
    · rw [if_pos hz] at h
      obtain ⟨h1, h2⟩ := Bool.and_eq_true_iff.mp hz
      obtain ⟨a, vs, rfl, ha, ra⟩ := ry.seqL
      have r := flatx h1
      refine .inl ⟨a, vs, rfl, .inl ha, r.flat h1, ra.flat h2, ?_⟩
      have e1 : inV x vs = l.any fun y => D.eqv y d := any_rep r h1 ra h2
      have := h.ret s (.bl _)
      rw [hf] at this
      rw [e1]
      cases neg <;> exact this
    · rw [if_neg hz] at h
      by_cases hp : okEq d (.lst l) = true
      · rw [if_pos hp] at h
        obtain ⟨⟨p1, p2⟩, p3, p4⟩ := okEq_of hp
        refine .inr (.inr (.inr (.inl ⟨_, D.pys l, rx.dp p1, ry.dp p3, py_shaped p1 p2, py_shaped p3 p4, ?_⟩)))
        have hpl : D.plains l = true := p3
        have e1 : ((D.pys l).any fun z => PyData.eqv z (D.py d)) = l.any fun y => D.eqv y d := by
          clear h hz hp p3 p4 ry
          induction l with
          | nil => rfl
          | cons c l ih =>
            have hc : D.plain c = true ∧ D.plains l = true := by simpa [D.plains] using hpl
            show (PyData.eqv (D.py c) (D.py d) || (D.pys l).any fun z => PyData.eqv z (D.py d)) = _
            rw [List.any_cons, ih hc.2, py_eqv c d hc.1 p1]
        rw [e1]
        exact h.ret s (.bl _)
      · rw [if_neg hp] at h
        by_cases he : (d.isEmp && l.all D.isFull) = true
        · rw [if_pos he] at h
          obtain ⟨h1, h2⟩ := Bool.and_eq_true_iff.mp he
          have hd : d = .dct [] := by
            cases d with
            | dct m => cases m with
              | nil => rfl
              | cons _ _ => cases h1
            | _ => cases h1
          subst hd
          obtain ⟨b, ks, rfl, hb, rb⟩ := rx.dctH
          obtain ⟨a, vs, rfl, ha, ra⟩ := ry.seqL
          have hks : ks = [] := by
            have := rb.1
            simpa using this
          subst hks
          refine .inr (.inr (.inr (.inr ⟨b, a, vs, rfl, hb, rfl, ha, ?_, h.ret s (.bl _)⟩)))
          intro z hz
          obtain ⟨i, hi⟩ := List.mem_iff_getElem?.mp hz
          obtain ⟨c, hc, rc⟩ := ra.atV hi
          have hf := List.all_eq_true.mp h2 c (List.mem_of_getElem? hc)
          cases c with
          | dct m =>
            cases m with
            | nil => cases hf
            | cons q m =>
              obtain ⟨a', ks, e1, e2, e3⟩ := RepB.dctH (K := K) (cl := cl) (ω := ω) (H := H) (.inl rc)
              cases ks with
              | nil =>
                have := e3.1
                simp at this
              | cons k ks => exact ⟨a', k, ks, e1, e2⟩
          | _ => cases hf
        · rw [if_neg he] at h
          exact h.elim
  | tup l =>
    simp only [inD] at h
    by_cases hz : (D.flat d && l.all D.flat) = true
    · rw [if_pos hz] at h
      obtain ⟨h1, h2⟩ := Bool.and_eq_true_iff.mp hz
      obtain ⟨a, vs, rfl, ha, ra⟩ := ry.tup.seqT
      have r := flatx h1
      refine .inl ⟨a, vs, rfl, .inr ha, r.flat h1, ra.flat h2, ?_⟩
      have e1 : inV x vs = l.any fun y => D.eqv y d := any_rep r h1 ra h2
      have := h.ret s (.bl _)
      rw [hf] at this
      rw [e1]
      cases neg <;> exact this
    · rw [if_neg hz] at h
      exact h.elim
  | str z =>
    cases d with
    | str w =>
      simp only [inD] at h
      split at h
      · rename_i r hr
        split at hr
        · rename_i c hc
          cases hr
          obtain rfl := ry.str
          obtain rfl := rx.str
          have ew : w = ⟨#[c]⟩ := by
            cases w with
            | mk cps =>
              simp only at hc
              congr 1
              exact Array.ext' (by simpa using hc)
          exact .inr (.inl ⟨c, z, by rw [ew], rfl, h.ret s (.bl _)⟩)
        · cases hr
      · exact h.elim
    | _ => exact h.elim
  | dct l =>
    obtain ⟨a, ks, rfl, ha, ra⟩ := ry.dctH
    have go : ∀ k : Ky, x = kV k → inD S d (.dct l) = some (hasKey l k) → rDin f x (.ref a) H Q := fun k ex hk => by
      rw [hk] at h
      refine ⟨a, valV ks k, rfl, by rw [ex]; exact DGet.k ha, ?_⟩
      have := h.ret s (.bl _)
      have e2 : (valV ks k).isSome = hasKey l k := by
        unfold hasKey
        rcases ra.val k with ⟨z1, z2⟩ | ⟨v, d, z1, z2, _⟩ <;> rw [z1, z2] <;> rfl
      rw [e2]
      exact this
    cases d with
    | str w => exact .inr (.inr (.inl (go (.inr w) rx.str rfl)))
    | int i => exact .inr (.inr (.inl (go (.inl i) rx.int rfl)))
    | _ => exact h.elim
  | _ => exact h.elim
theorem cmp_ok {b : Bool} (op : Cop) (s : SR K cl own ω σ H δ S) (rx : RepB K cl ω H x d) (ry : RepB K cl ω H y e) (h : pG K cl own (RepF K cl b) ω H σ δ Q (cmpD op d e S)) : rCmp K op x y H Q := by
  cases op with
  | eq =>
    cases d with
    | dct l => cases e with
      | dct m => exact .inr (.inr (dct_gen id s rx ry h))
      | _ => exact .inr (.inl (eq_gen id s rx ry h))
    | str i => cases e with
      | str j => exact .inl ⟨by rw [rx.str, ry.str]; rfl, by
          rw [rx.str, ry.str]
          have := h.ret s (.bl _)
          simpa using this⟩
      | _ => exact .inr (.inl (eq_gen id s rx ry h))
    | _ => exact .inr (.inl (eq_gen id s rx ry h))
  | ne =>
    cases d with
    | dct l => cases e with
      | dct m => exact .inr (.inr (.inl (dct_gen not s rx ry h)))
      | _ => exact .inr (.inl (eq_gen not s rx ry h))
    | str i => cases e with
      | str j => exact .inl ⟨by rw [rx.str, ry.str]; rfl, by
          rw [rx.str, ry.str]
          have := h.ret s (.bl _)
          simpa using this⟩
      | _ => exact .inr (.inl (eq_gen not s rx ry h))
    | non => cases e with
      | dct m =>
        obtain ⟨b, ls, rfl, eb, _⟩ := ry.dctH
        refine .inr (.inr (.inr ⟨?_, b, ls, rfl, eb, h.ret s (.bl _)⟩))
        have := rx.notNon
        simpa [D.isNon] using this
      | _ => exact .inr (.inl (eq_gen not s rx ry h))
    | _ => exact .inr (.inl (eq_gen not s rx ry h))
  | lt =>
    cases d with
    | int i => cases e with
      | int j => exact .inl ⟨i, j, rx.int, ry.int, h.ret s (.bl _)⟩
      | _ => exact h.elim
    | str i => cases e with
      | str j => exact .inr ⟨i, j, rx.str, ry.str, h.ret s (.bl _)⟩
      | _ => exact h.elim
    | _ => exact h.elim
  | le =>
    cases d with
    | int i => cases e with
      | int j => exact ⟨i, j, rx.int, ry.int, h.ret s (.bl _)⟩
      | _ => exact h.elim
    | _ => exact h.elim
  | gt =>
    cases d with
    | int i => cases e with
      | int j => exact ⟨i, j, rx.int, ry.int, h.ret s (.bl _)⟩
      | _ => exact h.elim
    | _ => exact h.elim
  | ge =>
    cases d with
    | int i => cases e with
      | int j => exact ⟨i, j, rx.int, ry.int, h.ret s (.bl _)⟩
      | _ => exact h.elim
    | _ => exact h.elim
  | isN =>
    cases e with
    | non =>
      refine ⟨ry.non, ?_⟩
      rw [rx.notNon]
      exact h.ret s (.bl _)
    | _ => exact h.elim
  | notN =>
    cases e with
    | non =>
      refine ⟨ry.non, ?_⟩
      rw [rx.notNon]
      exact h.ret s (.bl _)
    | _ => exact h.elim
  | inn => exact in_ok id (neg := false) (fun _ => rfl) s rx ry h
  | nin => exact in_ok not (neg := true) (fun _ => rfl) s rx ry h
end
end RF
end
section
set_option linter.all false
set_option maxRecDepth 100000
set_option maxHeartbeats 4000000
set_option autoImplicit false
/-! RfSnd4: expressions. -/
namespace RF
open PySem PySem.Spec L2
open PyProof.Rows hiding St
structure Cs where
  N : List Str
  sc : Scope
  own : List Nat
  fb : Str → Bool
/-- no set display, no starred, no slice -/
def okShape : Expr → Bool
  | .Set .. => false
  | .Starred .. => false
  | .Slice .. => false
  | _ => true
theorem shape_mark {e : Expr} (h : okShape e = true) (op : CmpOp) : behindInMarks op e = false := by
  cases e <;> first | rfl | cases h
theorem shape_star {e : Expr} {es : List Expr} {env : Env} (h : okShape e = true) : starEach (e :: es) env = (false, eval e env) :: starEach es env := by
  cases e <;> first | rfl | cases h
theorem shape_ix {e : Expr} (h : okShape e = true) : PlainIx e := by
  intro o i
  cases e <;> first | rfl | cases h
theorem shape_fold {e : Expr} (h : okShape e = true) (env : Env) : ∀ x, foldedSetIterable e env x = pure x := by
  intro x
  cases e <;> first | rfl | cases h
/-- no comprehension -/
def okSw : Expr → Bool
  | .ListComp .. => false
  | .SetComp .. => false
  | .DictComp .. => false
  | _ => true
/-- as a test it is its value's truth -/
def plainT : Expr → Bool
  | .UnaryOp .Not _ _ => false
  | .BoolOp .. => false
  | .IfExp .. => false
  | .Compare .. => false
  | _ => true
theorem plainT_is {e : Expr} (h : plainT e = true) {env : Env} : ∀ whole, PySem.isTrue e env whole = (do let v ← whole; standAt e.pos; holding [v] (truthy v)) := by
  intro whole
  cases e with
  | UnaryOp op _ _ => cases op <;> first | rfl | cases h
  | _ => first | rfl | cases h
section
variable {K : PySem.W.Frag} {cl : Nat → Addr} {own : List Nat} {X : Cx}
/-- the same by another function -/
theorem tG_congr {α γ : Type} {R : Wd → Hp → γ → α → Prop} {f g : En → M α} (e : ∀ δ S, f δ S = g δ S) {σ : L2.St} {H : Hp} {Q : γ → Hp → Prop} (h : tG K cl own R g σ H Q) : tG K cl own R f σ H Q := by
  obtain ⟨ω, δ, S, s, q⟩ := h
  exact ⟨ω, δ, S, s, by rw [e]; exact q⟩
theorem PE.b {e : Expr} {f : En → M D} (h : PE X e (tE K cl own true f)) (b : Bool) : PE X e (tE K cl own b f) → PE X e (tE K cl own b f) := id
/-! ### names, constants -/
theorem re_var {i : Nat} {x : Str} {pos : Pos} {b : Bool} (hN : X.N[i]? = some x) (hv : Vis X.env.scope x) (hd : (x == ("__debug__" : Str)) = false) (hcd : (x == ("__classdict__" : Str)) = false) (ho : i ∈ own → b = true) :
    PE X (.Name x pos) (tE K cl own b fun δ => getV δ i) := by
  refine (pe_var hN hv hd hcd).imp fun σ H Q ⟨ω, δ, S, s, q⟩ => ?_
  change pG K cl own (RepF K cl b) ω H σ δ Q (getV δ i S) at q
  unfold getV at q
  cases e : δ[i]? with
  | none => rw [e] at q; exact q.elim
  | some o =>
    cases o with
    | none => rw [e] at q; exact q.elim
    | some d =>
      rw [e] at q
      by_cases hi : i ∈ own
      · have hb := ho hi
        subst hb
        rcases s.osl i d e hi with ⟨a, h1, h2, h3⟩ | ⟨_, v, h1, h2⟩
        · exact ⟨_, h1, q ω _ H (Go.refl _ _) s (.inr ⟨a, i, rfl, h2, h3⟩)⟩
        · exact ⟨v, h1, pG.ret q s h2⟩
      · obtain ⟨v, h1, h2⟩ := s.slot i d e hi
        exact ⟨v, h1, pG.ret q s h2⟩
theorem re_vim {i : Nat} {x : Str} {pos : Pos} {b : Bool} (hN : X.N[i]? = some x) (hv : Vis X.env.scope x) (hd : (x == ("__debug__" : Str)) = false) (hcd : (x == ("__classdict__" : Str)) = false) :
    PE X (.Name x pos) (tE K cl own b fun δ => do
      let d ← getV δ i
      if d.imm = true then pure d else M.no) := by
  refine (pe_var hN hv hd hcd).imp fun σ H Q ⟨ω, δ, S, s, q⟩ => ?_
  dsimp only at q
  rw [M.bind_run] at q
  unfold getV at q
  cases e : δ[i]? with
  | none => rw [e] at q; exact q.elim
  | some o =>
    cases o with
    | none => rw [e] at q; exact q.elim
    | some d =>
      rw [e] at q
      simp only [M.pure_run] at q
      by_cases hm : d.imm = true
      case neg => rw [if_neg hm] at q; exact q.elim
      rw [if_pos hm] at q
      have fin : ∀ v, Rep K cl ω H v d → Q v H := fun v r => pG.ret q s r
      by_cases hi : i ∈ own
      · rcases s.osl i d e hi with ⟨a, h1, h2, h3⟩ | ⟨_, v, h1, h2⟩
        · cases d <;> first | exact h3.elim | exact absurd hm (by simp [D.imm])
        · exact ⟨v, h1, fin v h2⟩
      · obtain ⟨v, h1, h2⟩ := s.slot i d e hi
        exact ⟨v, h1, fin v h2⟩
theorem re_cst {e : Expr} {v : V} {d : D} {b : Bool} (h : PE X e (tC v)) (r : ∀ ω H, Rep K cl ω H v d) : PE X e (tE K cl own b fun _ => pure d) :=
  h.imp fun σ H Q ⟨ω, δ, S, s, q⟩ => pG.ret q s (r ω H)
/-! ### lists of expressions -/
theorem ra_nil {b : Bool} : PA X [] (tA K cl own b fun _ => pure []) := pa_nil.imp fun σ H Q ⟨ω, δ, S, s, q⟩ => q ω [] H (Go.refl _ _) s .nil
theorem ra_cons {e : Expr} {es : List Expr} {b : Bool} {f : En → M D} {g : En → M (List D)} (he : PE X e (tE K cl own b f)) (hr : PA X es (tA K cl own b g)) (hs : okShape e = true) :
    PA X (e :: es) (tA K cl own b fun δ => do let x ← f δ; let l ← g δ; pure (x :: l)) := by
  refine (pa_cons he hr (shape_star hs)).imp fun σ H Q ⟨ω, δ, S, s, q⟩ => ?_
  refine ⟨ω, δ, S, s, pG_bind q fun ω1 v H1 x S1 g1 s1 r1 q1 => ?_⟩
  refine ⟨ω1, δ, S1, s1, pG_bind q1 fun ω2 vs H2 l S2 g2 s2 r2 q2 => ?_⟩
  exact q2 ω2 _ H2 (Go.refl _ _) s2 (.cons (r1.go g2 s1.wok) r2)
/-! ### operators -/
theorem re_bin {a c : Expr} {op : Bop} {pos : Pos} {f g : En → M D} {b : Bool} (ha : PE X a (tE X.K cl own true f)) (hc : PE X c (tE X.K cl own true g)) :
    PE X (.BinOp a (bopOf op) c pos) (tE X.K cl own b fun δ => do let x ← f δ; let y ← g δ; binD op x y) := by
  refine (pe_op (op_bin op) ha hc).imp fun σ H Q ⟨ω, δ, S, s, q⟩ => ?_
  refine ⟨ω, δ, S, s, pG_bind q fun ω1 v H1 x S1 g1 s1 r1 q1 => ?_⟩
  refine ⟨ω1, δ, S1, s1, pG_bind q1 fun ω2 u H2 y S2 g2 s2 r2 q2 => ?_⟩
  exact bin_ok op s2 (RepB.go r1 g2 s1.wok) r2 q2
theorem re_neg {a : Expr} {pos : Pos} {f : En → M D} {b : Bool} (ha : PE X a (tE K cl own true f)) :
    PE X (.UnaryOp .USub a pos) (tE K cl own b fun δ => do
      match ← f δ with
      | .int i => pure (.int (-i))
      | _ => M.no) := by
  refine (pe_un un_neg ha).imp fun σ H Q ⟨ω, δ, S, s, q⟩ => ?_
  refine ⟨ω, δ, S, s, pG_bind q fun ω1 v H1 x S1 g1 s1 r1 q1 => ?_⟩
  cases x with
  | int i => exact ⟨i, RepB.int r1, pG.ret q1 s1 (.int _)⟩
  | _ => exact q1.elim
theorem hu_cmp {k : Nat} {A : Around} (r : Room k A) : A.units + 128 < cLine := by
  have := r.un
  omega
theorem re_cmp {a c : Expr} {op : Cop} {pos : Pos} {f g : En → M D} {b : Bool} {k : Nat} (hr : Room k X.A) (hs : okShape c = true) (ha : PE X a (tE X.K cl own true f)) (hc : PE X c (tE X.K cl own true g)) :
    PE X (.Compare a [copOf op] [c] pos) (tE X.K cl own b fun δ => do let x ← f δ; let y ← g δ; cmpD op x y) := by
  refine (pe_cmpR (op_cmp (hu_cmp hr) op) ha hc (shape_mark hs _)).imp fun σ H Q ⟨ω, δ, S, s, q⟩ => ?_
  refine ⟨ω, δ, S, s, pG_bind q fun ω1 v H1 x S1 g1 s1 r1 q1 => ?_⟩
  refine ⟨ω1, δ, S1, s1, pG_bind q1 fun ω2 u H2 y S2 g2 s2 r2 q2 => ?_⟩
  exact cmp_ok op s2 (RepB.go r1 g2 s1.wok) r2 q2
/-- a value that is a bool, for a test -/
theorem asB_out {ω : Wd} {H : Hp} {σ : L2.St} {δ : En} {S : Sto} {Q : Bool → Hp → Prop} {v : V} {d : D} (s : SR K cl own ω σ H δ S) (r : RepB K cl ω H v d) (q : pG K cl own (fun _ _ (c c' : Bool) => c = c') ω H σ δ Q (asB d S)) : ∃ k, v = .bl k ∧ Q k H := by
  cases d with
  | bl k => exact ⟨k, r.bl, q ω k H (Go.refl _ _) s rfl⟩
  | _ => exact q.elim
theorem rt_cmp {a c : Expr} {op : Cop} {pos : Pos} {f g : En → M D} {k : Nat} (hr : Room k X.A) (hs : okShape c = true) (ha : PE X a (tE X.K cl own true f)) (hc : PE X c (tE X.K cl own true g)) :
    PT X (.Compare a [copOf op] [c] pos) (tT X.K cl own fun δ => do asB (← (do let x ← f δ; let y ← g δ; cmpD op x y))) := by
  refine (pt_cmpR (op_cmp (hu_cmp hr) op) ha hc (shape_mark hs _)).imp fun σ H Q ⟨ω, δ, S, s, q⟩ => ?_
  have q' : pG X.K cl own (fun _ _ (c c' : Bool) => c = c') ω H σ δ Q ((f δ >>= fun x => g δ >>= fun y => cmpD op x y >>= asB) S) := by
    have e : ((do asB (← (do let x ← f δ; let y ← g δ; cmpD op x y))) : M Bool) S = (f δ >>= fun x => g δ >>= fun y => cmpD op x y >>= asB) S := by
      simp only [M.bind_run]
      cases f δ S with
      | ok x S1 =>
        simp only
        cases g δ S1 <;> rfl
      | _ => rfl
    rw [← e]
    exact q
  refine ⟨ω, δ, S, s, pG_bind q' fun ω1 v H1 x S1 g1 s1 r1 q1 => ?_⟩
  refine ⟨ω1, δ, S1, s1, pG_bind q1 fun ω2 u H2 y S2 g2 s2 r2 q2 => ?_⟩
  refine cmp_ok (b := false) op s2 (RepB.go r1 g2 s1.wok) r2 ?_
  exact pG_bind q2 fun ω3 z H3 d S3 g3 s3 r3 q3 => asB_out s3 (RepF.b r3) q3
theorem rt_val {e : Expr} {f : En → M D} (h : PE X e (tE K cl own true f)) (hp : plainT e = true) : PT X e (tT K cl own fun δ => do asB (← f δ)) := by
  refine (pt_val h (plainT_is hp)).imp fun σ H Q ⟨ω, δ, S, s, q⟩ => ?_
  exact ⟨ω, δ, S, s, pG_bind q fun ω1 v H1 x S1 g1 s1 r1 q1 => asB_out s1 r1 q1⟩
end
end RF
end
section
set_option linter.all false
set_option maxRecDepth 100000
set_option maxHeartbeats 4000000
set_option autoImplicit false
/-! RfSnd5: expressions: and, or, not, if, displays, items, slices, isinstance, f-strings. -/
namespace RF
open PySem PySem.Spec L2
open PyProof.Rows hiding St
section
variable {K : PySem.W.Frag} {cl : Nat → Addr} {own : List Nat} {X : Cx} {a c e : Expr} {es rest : List Expr} {pos : Pos} {f g h : En → M D} {t u : En → M Bool} {b : Bool}
/-! ### tests -/
theorem rt_not (ha : PT X a (tT K cl own t)) : PT X (.UnaryOp .Not a pos) (tT K cl own fun δ => do pure (!(← t δ))) := by
  refine (pt_not ha).imp fun σ H Q ⟨ω, δ, S, s, q⟩ => ?_
  exact ⟨ω, δ, S, s, pG_bind q fun ω1 v H1 x S1 g1 s1 r1 q1 => by subst r1; exact q1 ω1 _ H1 (Go.refl _ _) s1 rfl⟩
theorem re_not (ha : PE X a (tE K cl own true f)) : PE X (.UnaryOp .Not a pos) (tE K cl own b fun δ => do pure (.bl (!(← asB (← f δ))))) := by
  refine (pe_not ha).imp fun σ H Q ⟨ω, δ, S, s, q⟩ => ?_
  refine ⟨ω, δ, S, s, pG_bind (k := fun x => asB x >>= fun k => (Pure.pure (D.bl (!k)) : M D)) q fun ω1 v H1 x S1 g1 s1 r1 q1 => ?_⟩
  cases x with
  | bl k => exact ⟨k, RepB.bl r1, pG.ret q1 s1 (.bl _)⟩
  | _ => exact q1.elim
theorem rt_ite (hc : PT X c (tT K cl own t)) (ha : PT X a (tT K cl own u)) {u' : En → M Bool} (he : PT X e (tT K cl own u')) : PT X (.IfExp c a e pos) (tT K cl own fun δ => do if ← t δ then u δ else u' δ) := by
  refine ⟨fun pins s0 σ H Q I hw => ?_⟩
  obtain ⟨ω, δ, S, s, q⟩ := hw
  have hc' := hc.run pins s0 σ H (fun k H1 => if k = true then tT K cl own u σ H1 Q else tT K cl own u' σ H1 Q) I ⟨ω, δ, S, s, pG_bind q fun ω1 v H1 x S1 g1 s1 r1 q1 => by
    subst r1
    cases v with
    | true => exact ⟨ω1, δ, S1, s1, q1⟩
    | false => exact ⟨ω1, δ, S1, s1, q1⟩⟩
  show wpAny (model X.prog X.w) X.A (do if ← PySem.isTrue c X.env (eval c X.env) then PySem.isTrue a X.env (eval a X.env) else PySem.isTrue e X.env (eval e X.env)) _ _ s0
  refine wpAny_bind (thn hc' fun k s1 ⟨H1, I1, q1⟩ => ?_)
  cases k with
  | true => exact ha.run pins s1 σ H1 Q I1 q1
  | false => exact he.run pins s1 σ H1 Q I1 q1
theorem re_ite (hc : PT X c (tT K cl own t)) (ha : PE X a (tE K cl own b f)) (he : PE X e (tE K cl own b g)) : PE X (.IfExp c a e pos) (tE K cl own b fun δ => do if ← t δ then f δ else g δ) := by
  refine (pe_ifExp hc ha he).imp fun σ H Q ⟨ω, δ, S, s, q⟩ => ?_
  refine ⟨ω, δ, S, s, pG_bind q fun ω1 v H1 x S1 g1 s1 r1 q1 => ?_⟩
  subst r1
  cases v with
  | true => exact ⟨ω1, δ, S1, s1, q1⟩
  | false => exact ⟨ω1, δ, S1, s1, q1⟩
theorem rw_and1 (ha : PT X a (tT K cl own t)) : PW X (.BoolOp .And [a] pos) (tT K cl own fun δ => do if ← t δ then pure true else pure false) := by
  refine (pw_and1 ha).imp fun σ H Q ⟨ω, δ, S, s, q⟩ => ⟨ω, δ, S, s, pG_bind q fun ω1 v H1 x S1 g1 s1 r1 q1 => ?_⟩
  subst r1
  cases v <;> exact q1 ω1 _ H1 (Go.refl _ _) s1 rfl
theorem rw_and (ha : PT X a (tT K cl own t)) (hb : PW X (.BoolOp .And (c :: rest) pos) (tT K cl own u)) : PW X (.BoolOp .And (a :: c :: rest) pos) (tT K cl own fun δ => do if ← t δ then u δ else pure false) := by
  refine (pw_and ha hb).imp fun σ H Q ⟨ω, δ, S, s, q⟩ => ⟨ω, δ, S, s, pG_bind q fun ω1 v H1 x S1 g1 s1 r1 q1 => ?_⟩
  subst r1
  cases v with
  | true => exact ⟨ω1, δ, S1, s1, q1⟩
  | false => exact q1 ω1 _ H1 (Go.refl _ _) s1 rfl
theorem rw_or1 (ha : PT X a (tT K cl own t)) : PW X (.BoolOp .Or [a] pos) (tT K cl own fun δ => do if ← t δ then pure true else pure false) := by
  refine (pw_or1 ha).imp fun σ H Q ⟨ω, δ, S, s, q⟩ => ⟨ω, δ, S, s, pG_bind q fun ω1 v H1 x S1 g1 s1 r1 q1 => ?_⟩
  subst r1
  cases v <;> exact q1 ω1 _ H1 (Go.refl _ _) s1 rfl
theorem rw_or (ha : PT X a (tT K cl own t)) (hb : PW X (.BoolOp .Or (c :: rest) pos) (tT K cl own u)) : PW X (.BoolOp .Or (a :: c :: rest) pos) (tT K cl own fun δ => do if ← t δ then pure true else u δ) := by
  refine (pw_or ha hb).imp fun σ H Q ⟨ω, δ, S, s, q⟩ => ⟨ω, δ, S, s, pG_bind q fun ω1 v H1 x S1 g1 s1 r1 q1 => ?_⟩
  subst r1
  cases v with
  | true => exact q1 ω1 _ H1 (Go.refl _ _) s1 rfl
  | false => exact ⟨ω1, δ, S1, s1, q1⟩
/-- .. as values -/
def bB (t : En → M Bool) : En → M D := fun δ => do pure (.bl (← t δ))
theorem pG_bl {ω : Wd} {H : Hp} {σ : L2.St} {δ : En} {S : Sto} {Q : VK} (q : pG K cl own (RepF K cl b) ω H σ δ Q (bB t δ S)) : pG K cl own (fun _ _ (c c' : Bool) => c = c') ω H σ δ (fun k H' => Q (.bl k) H') (t δ S) := by
  unfold bB at q
  exact pG_bind q fun ω1 v H1 x S1 g1 s1 r1 q1 => by subst r1; exact pG.ret q1 s1 (.bl _)
theorem bl_pG {ω : Wd} {H : Hp} {σ : L2.St} {δ : En} {S : Sto} {Q : VK} (q : pG K cl own (fun _ _ (c c' : Bool) => c = c') ω H σ δ (fun k H' => Q (.bl k) H') (t δ S)) : pG K cl own (RepF K cl b) ω H σ δ Q (bB t δ S) := by
  have e1 : bB t δ S = (match t δ S with
    | .ok a s' => .ok (.bl a) s'
    | .exc e s' => .exc e s'
    | .no => .no) := by
    unfold bB
    rw [M.bind_run]
    cases t δ S <;> rfl
  rw [e1]
  cases e : t δ S with
  | ok k S1 =>
    rw [e] at q
    intro ω1 v H1 g1 s1 r1
    have hv : v = .bl k := (RepF.b r1).bl
    subst hv
    exact q ω1 k H1 g1 s1 rfl
  | exc _ _ => rw [e] at q; exact q.elim
  | no => rw [e] at q; exact q.elim
theorem re_and1 (ha : PE X a (tE K cl own true f)) : PE X (.BoolOp .And [a] pos) (tE K cl own b (bB fun δ => do if ← asB (← f δ) then pure true else pure false)) := by
  refine (pe_one ha).imp fun σ H Q ⟨ω, δ, S, s, q⟩ => ⟨ω, δ, S, s, ?_⟩
  refine pG_bind (k := fun x => asB x >>= fun k => if k = true then pure true else pure false) (pG_bl q) fun ω1 v H1 x S1 g1 s1 r1 q1 => ?_
  cases x with
  | bl k =>
    rw [RepB.bl r1]
    cases k <;> exact q1 ω1 _ H1 (Go.refl _ _) s1 rfl
  | _ => exact q1.elim
theorem re_or1 (ha : PE X a (tE K cl own true f)) : PE X (.BoolOp .Or [a] pos) (tE K cl own b (bB fun δ => do if ← asB (← f δ) then pure true else pure false)) := by
  refine (pe_one ha).imp fun σ H Q ⟨ω, δ, S, s, q⟩ => ⟨ω, δ, S, s, ?_⟩
  refine pG_bind (k := fun x => asB x >>= fun k => if k = true then pure true else pure false) (pG_bl q) fun ω1 v H1 x S1 g1 s1 r1 q1 => ?_
  cases x with
  | bl k =>
    rw [RepB.bl r1]
    cases k <;> exact q1 ω1 _ H1 (Go.refl _ _) s1 rfl
  | _ => exact q1.elim
theorem re_and (ha : PE X a (tE K cl own true f)) (hb : PE X (.BoolOp .And (c :: rest) pos) (tE K cl own b (bB u))) : PE X (.BoolOp .And (a :: c :: rest) pos) (tE K cl own b (bB fun δ => do if ← asB (← f δ) then u δ else pure false)) := by
  refine (pe_and ha hb).imp fun σ H Q ⟨ω, δ, S, s, q⟩ => ⟨ω, δ, S, s, ?_⟩
  refine pG_bind (k := fun x => asB x >>= fun k => if k = true then u δ else pure false) (pG_bl q) fun ω1 v H1 x S1 g1 s1 r1 q1 => ?_
  cases x with
  | bl k =>
    refine ⟨k, RepB.bl r1, ?_⟩
    cases k with
    | true => exact ⟨ω1, δ, S1, s1, bl_pG q1⟩
    | false => exact q1 ω1 _ H1 (Go.refl _ _) s1 rfl
  | _ => exact q1.elim
theorem re_or (ha : PE X a (tE K cl own true f)) (hb : PE X (.BoolOp .Or (c :: rest) pos) (tE K cl own b (bB u))) : PE X (.BoolOp .Or (a :: c :: rest) pos) (tE K cl own b (bB fun δ => do if ← asB (← f δ) then pure true else u δ)) := by
  refine (pe_or ha hb).imp fun σ H Q ⟨ω, δ, S, s, q⟩ => ⟨ω, δ, S, s, ?_⟩
  refine pG_bind (k := fun x => asB x >>= fun k => if k = true then pure true else u δ) (pG_bl q) fun ω1 v H1 x S1 g1 s1 r1 q1 => ?_
  cases x with
  | bl k =>
    refine ⟨k, RepB.bl r1, ?_⟩
    cases k with
    | true => exact q1 ω1 _ H1 (Go.refl _ _) s1 rfl
    | false => exact ⟨ω1, δ, S1, s1, bl_pG q1⟩
  | _ => exact q1.elim
theorem re_chain {op op' : Cop} {d : Expr} {k : Nat} (hr : Room k X.A) (hs : okShape d = true) (ha : PE X a (tE X.K cl own true f)) (hc : PE X c (tE X.K cl own true g)) (hd : PE X d (tE X.K cl own true h)) :
    PE X (.Compare a [copOf op, copOf op'] [c, d] pos) (tE X.K cl own b fun δ => do
      let x ← f δ
      let y ← g δ
      let k ← asB (← cmpD op x y)
      if k then do
        let z ← h δ
        cmpD op' y z
      else pure (.bl false)) := by
  refine (pe_chain (op_cmp (hu_cmp hr) op) (op_cmp (hu_cmp hr) op') ha hc hd (shape_mark hs _)).imp fun σ H Q ⟨ω, δ, S, s, q⟩ => ?_
  refine ⟨ω, δ, S, s, pG_bind q fun ω1 v H1 x S1 g1 s1 r1 q1 => ?_⟩
  refine ⟨ω1, δ, S1, s1, pG_bind q1 fun ω2 w H2 y S2 g2 s2 r2 q2 => ?_⟩
  refine cmp_ok (b := false) op s2 (RepB.go r1 g2 s1.wok) r2 (pG_bind (k := fun z => asB z >>= fun k => if k = true then h δ >>= fun z => cmpD op' y z else pure (.bl false)) q2 fun ω3 z H3 d S3 g3 s3 r3 q3 => ?_)
  cases d with
  | bl k =>
    refine ⟨k, (RepF.b r3).bl, ?_⟩
    cases k with
    | true =>
      refine ⟨ω3, δ, S3, s3, pG_bind (k := fun z => cmpD op' y z) q3 fun ω4 z4 H4 d4 S4 g4 s4 r4 q4 => ?_⟩
      exact cmp_ok op' s4 (RepB.go (RepB.go r2 g3 s2.wok) g4 s3.wok) r4 q4
    | false => exact pG.ret q3 s3 (.bl _)
  | _ => exact q3.elim
theorem rt_chain {op op' : Cop} {d : Expr} {k : Nat} (hr : Room k X.A) (hs : okShape d = true) (ha : PE X a (tE X.K cl own true f)) (hc : PE X c (tE X.K cl own true g)) (hd : PE X d (tE X.K cl own true h)) :
    PT X (.Compare a [copOf op, copOf op'] [c, d] pos) (tT X.K cl own fun δ => do asB (← (do
      let x ← f δ
      let y ← g δ
      let k ← asB (← cmpD op x y)
      if k then do
        let z ← h δ
        cmpD op' y z
      else pure (.bl false)))) := by
  refine (pt_chain (op_cmp (hu_cmp hr) op) (op_cmp (hu_cmp hr) op') ha hc hd (shape_mark hs _)).imp fun σ H Q ⟨ω, δ, S, s, q⟩ => ?_
  have q' : pG X.K cl own (fun _ _ (c c' : Bool) => c = c') ω H σ δ Q ((f δ >>= fun x => g δ >>= fun y => cmpD op x y >>= fun z => asB z >>= fun k => if k = true then h δ >>= fun z => cmpD op' y z >>= asB else pure false) S) := by
    have e : ((do asB (← (do
      let x ← f δ
      let y ← g δ
      let k ← asB (← cmpD op x y)
      if k then do
        let z ← h δ
        cmpD op' y z
      else pure (.bl false)))) : M Bool) S = (f δ >>= fun x => g δ >>= fun y => cmpD op x y >>= fun z => asB z >>= fun k => if k = true then h δ >>= fun z => cmpD op' y z >>= asB else pure false) S := by
      simp only [M.bind_run]
      cases f δ S with
      | ok x S1 =>
        simp only
        cases g δ S1 with
        | ok y S2 =>
          simp only
          cases cmpD op x y S2 with
          | ok z S3 =>
            simp only
            cases asB z S3 with
            | ok k S4 =>
              cases k with
              | true =>
                simp only [if_true, M.bind_run]
                cases h δ S4 <;> rfl
              | false => rfl
            | _ => rfl
          | _ => rfl
        | _ => rfl
      | _ => rfl
    rw [← e]
    exact q
  refine ⟨ω, δ, S, s, pG_bind q' fun ω1 v H1 x S1 g1 s1 r1 q1 => ?_⟩
  refine ⟨ω1, δ, S1, s1, pG_bind q1 fun ω2 w H2 y S2 g2 s2 r2 q2 => ?_⟩
  refine cmp_ok (b := false) op s2 (RepB.go r1 g2 s1.wok) r2 (pG_bind q2 fun ω3 z H3 d S3 g3 s3 r3 q3 => ?_)
  cases d with
  | bl k =>
    refine ⟨k, (RepF.b r3).bl, ?_⟩
    cases k with
    | true =>
      refine ⟨ω3, δ, S3, s3, pG_bind (k := fun z => cmpD op' y z >>= asB) q3 fun ω4 z4 H4 d4 S4 g4 s4 r4 q4 => ?_⟩
      exact cmp_ok (b := false) op' s4 (RepB.go (RepB.go r2 g3 s2.wok) g4 s3.wok) r4 (pG_bind q4 fun ω5 z5 H5 d5 S5 g5 s5 r5 q5 => asB_out s5 (RepF.b r5) q5)
    | false => exact ⟨false, rfl, q3 ω3 _ H3 (Go.refl _ _) s3 rfl⟩
  | _ => exact q3.elim
/-! ### displays -/
theorem l1000 {n : Nat} (h : n ≤ 1000) : n ≤ sizeLine := Nat.le_of_lt (small1000 h)
theorem RepFL.len {ω : Wd} {H : Hp} {vs : List V} {ds : List D} (r : RepFL K cl b ω H vs ds) : vs.length = ds.length := by
  induction r with
  | nil => rfl
  | cons _ _ ih => simp [ih]
theorem re_tup {k : Nat} {gs : En → M (List D)} (ha : PA X es (tA K cl own false gs)) : PE X (.Tuple es k pos) (tE K cl own b fun δ => do
    let ds ← gs δ
    if ds.length ≤ 1000 then pure (.tup ds) else M.no) := by
  refine (pe_tupF ha).imp fun σ H Q ⟨ω, δ, S, s, q⟩ => ⟨ω, δ, S, s, pG_bind q fun ω1 vs H1 ds S1 g1 s1 r1 q1 => ?_⟩
  by_cases hz : ds.length ≤ 1000
  · rw [if_pos hz] at q1
    exact ⟨l1000 (by rw [r1.len]; exact hz), fun p ob hp hd => pG.new q1 s1 hp (Rep.newT r1.l hp hd s1.wok)⟩
  · rw [if_neg hz] at q1
    exact q1.elim
/-! ### items, slices -/
theorem RepL.atI {ω : Wd} {H : Hp} {vs : List V} {ds : List D} (r : RepL K cl ω H vs ds) {i : Int} {d : D} (h : RF.atI ds i = some d) : ∃ v, L2.atI vs i = some v ∧ Rep K cl ω H v d := by
  unfold RF.atI at h
  rw [← r.1] at h
  cases e : ixOf vs.length i with
  | none => rw [e] at h; cases h
  | some j =>
    rw [e] at h
    obtain ⟨v, h1, h2⟩ := r.at h
    refine ⟨v, ?_, h2⟩
    show (ixOf vs.length i).bind (fun j => vs[j]?) = _
    rw [e]
    exact h1
theorem re_ix {k : Nat} (hr : Room k X.A) (hs : okShape c = true) (ha : PE X a (tE X.K cl own true f)) (hc : PE X c (tE X.K cl own true g)) : PE X (.Subscript a c pos) (tE X.K cl own b fun δ => do
    let x ← f δ
    let y ← g δ
    fun s => match ixD s x y with
      | some v => .ok v s
      | none => .no) := by
  refine ((pe_ix ix_seq ha hc (shape_ix hs)).or (pe_dget (hu_of hr) ha hc (shape_ix hs))).imp fun σ H Q ⟨ω, δ, S, s, q⟩ => ?_
  -- which of the two: by the first value
  have go : ∀ T : V → V → Hp → Prop, (∀ ω2 v w H2 x y S2, SR X.K cl own ω2 σ H2 δ S2 → RepB X.K cl ω2 H2 v x → RepB X.K cl ω2 H2 w y → f δ S = .ok x S2 ∨ True → pG X.K cl own (RepF X.K cl b) ω2 H2 σ δ Q (match ixD S2 x y with
      | some v => .ok v S2
      | none => .no) → (∃ S0, f δ S = .ok x S0) → T v w H2) → tE X.K cl own true f σ H fun v H1 => tE X.K cl own true g σ H1 fun w H2 => T v w H2 := fun T hT => by
    refine ⟨ω, δ, S, s, ?_⟩
    dsimp only at q
    rw [M.bind_run] at q
    cases e : f δ S with
    | ok x S1 =>
      rw [e] at q
      intro ω1 v H1 g1 s1 r1
      refine ⟨ω1, δ, S1, s1, pG_bind (k := fun y s => match ixD s x y with
        | some v => .ok v s
        | none => .no) (pG.go q g1) fun ω2 w H2 y S2 g2 s2 r2 q2 => ?_⟩
      exact hT ω2 v w H2 x y S2 s2 (RepB.go r1 g2 s1.wok) r2 (.inr trivial) q2 ⟨S1, e⟩
    | exc _ _ => rw [e] at q; exact q.elim
    | no => rw [e] at q; exact q.elim
  cases e : f δ S with
  | ok x S1 =>
    by_cases hd : ∃ l, x = .dct l
    · obtain ⟨l, rfl⟩ := hd
      refine .inr (go _ fun ω2 v w H2 x y S2 s2 r1 r2 _ q2 ⟨S0, e2⟩ => ?_)
      rw [e] at e2
      cases e2
      obtain ⟨p, ks, rfl, hp, rp⟩ := RepB.dctH r1
      have fin : ∀ q' : Ky, w = kV q' → ixD S2 (.dct l) y = dget l q' → ∃ a v, V.ref p = .ref a ∧ DGet H2 a w (some v) ∧ Q v H2 := fun q' ew ei => by
        rw [ei] at q2
        rcases rp.val q' with ⟨z1, z2⟩ | ⟨v, d, z1, z2, rv⟩
        · rw [z2] at q2; exact q2.elim
        · rw [z2] at q2
          refine ⟨p, v, rfl, ?_, pG.ret q2 s2 rv⟩
          have := DGet.k (k := q') hp
          rw [z1] at this
          rw [ew]
          exact this
      cases y with
      | int i => exact fin (.inl i) (RepB.int r2) rfl
      | str z => exact fin (.inr z) (RepB.str r2) rfl
      | _ => exact q2.elim
    · refine .inl (go _ fun ω2 v w H2 x' y S2 s2 r1 r2 _ q2 ⟨S0, e2⟩ => ?_)
      rw [e] at e2
      cases e2
      cases y with
      | int i =>
        cases x with
        | tup l =>
          obtain ⟨p, vs, rfl, hp, rp⟩ := (RepB.tup r1).seqT
          cases e3 : RF.atI l i with
          | none => simp only [ixD, e3] at q2; exact q2.elim
          | some d =>
            simp only [ixD, e3] at q2
            obtain ⟨z, h1, h2⟩ := rp.atI e3
            exact .inr (.inl ⟨p, vs, i, z, rfl, RepB.int r2, hp, h1, pG.ret q2 s2 h2⟩)
        | lst l =>
          obtain ⟨p, vs, rfl, hp, rp⟩ := RepB.seqL r1
          cases e3 : RF.atI l i with
          | none => simp only [ixD, e3] at q2; exact q2.elim
          | some d =>
            simp only [ixD, e3] at q2
            obtain ⟨z, h1, h2⟩ := rp.atI e3
            exact .inl ⟨p, vs, i, z, rfl, RepB.int r2, hp, h1, pG.ret q2 s2 h2⟩
        | frz l =>
          obtain ⟨p, vs, rfl, hp, rp⟩ := RepB.seqF r1
          cases e3 : RF.atI l i with
          | none => simp only [ixD, e3] at q2; exact q2.elim
          | some d =>
            simp only [ixD, e3] at q2
            obtain ⟨z, h1, h2⟩ := rp.atI e3
            exact .inl ⟨p, vs, i, z, rfl, RepB.int r2, hp, h1, pG.ret q2 s2 h2⟩
        | str z =>
          by_cases hz : z.length ≤ line
          · simp only [ixD, if_pos hz] at q2
            cases e3 : RF.atI z.cps.toList i with
            | none => rw [e3] at q2; exact q2.elim
            | some d =>
              rw [e3] at q2
              exact .inr (.inr ⟨z, i, d, RepB.str r1, RepB.int r2, by rw [← line_eq]; exact hz, e3, pG.ret q2 s2 (.str _)⟩)
          · simp only [ixD, if_neg hz] at q2
            exact q2.elim
        | obj n =>
          simp only [ixD] at q2
          cases e4 : S2[n]? with
          | none => rw [e4] at q2; exact q2.elim
          | some o =>
            rw [e4] at q2
            cases o with
            | lst l =>
              cases e3 : RF.atI l i with
              | none => simp only [e3] at q2; exact q2.elim
              | some d =>
                simp only [e3] at q2
                rcases r1 with r1 | ⟨_, _, _, _, z⟩
                · cases r1 with
                  | @obj p _ hp =>
                    obtain ⟨vs, hv, rp⟩ := s2.sto.obj n p _ hp e4
                    obtain ⟨z, h1, h2⟩ := rp.atI e3
                    exact .inl ⟨p, vs, i, z, rfl, RepB.int r2, .inl (.inl hv), h1, pG.ret q2 s2 h2⟩
                · exact z.elim
            | _ => exact q2.elim
        | dct l => exact absurd ⟨l, rfl⟩ hd
        | _ => exact q2.elim
      | _ => cases x <;> first | exact q2.elim | exact absurd ⟨_, rfl⟩ hd
  | exc _ _ =>
    simp only [M.bind_run, e] at q
    exact q.elim
  | no =>
    simp only [M.bind_run, e] at q
    exact q.elim
end
end RF
end
section
set_option linter.all false
set_option maxRecDepth 100000
set_option maxHeartbeats 4000000
set_option autoImplicit false
/-! RfSnd6: calls. A def's promise, where nothing is being shown (repr) around it. -/
namespace RF
open PySem PySem.Spec L2
open PyProof.Rows hiding St
/-- a def that keeps its promise wherever no repr is under way -/
structure FnR (P : Program) (w : World) (K : PySem.W.Frag) (mg : Str → Option Value) (base : Heap) (k : Nat) (f : Addr) (fd : FuncData) (ps : List Str) (sp : Sp) : Prop where
  len : ∀ vs H Q E, sp vs H Q E → vs.length = ps.length
  run : ∀ (A : Around) (outer : List Env) (s : Shared) (H : Hp) (args : Args) (us : List Value) (vs : List V) (Q : VK) (E : XK), Room k A → A.guards = some [] → Env0 P w K mg base A outer s H →
    BindsTo s fd args (ps.zip us) → Vals vs us → sp vs H Q E → codeAny (model P w) A (.call (.ref f) args) (CR CX0 outer P w H s Q E) s
section
variable {P : Program} {w : World} {K : PySem.W.Frag} {mg : Str → Option Value} {base : Heap} {k j : Nat} {f : Addr} {fd : FuncData} {ps : List Str} {sp : Sp}
theorem FnR.mono (F : FnR P w K mg base j f fd ps sp) (h : j ≤ k) : FnR P w K mg base k f fd ps sp :=
  ⟨F.len, fun A outer s H args us vs Q E hr => F.run A outer s H args us vs Q E (hr.mono h)⟩
theorem deeper_guards {A : Around} {env : Env} (h : A.guards = some []) : (A.deeper env).guards = some [] := by
  unfold Around.deeper
  simpa using h
theorem fnr_of {name qual : Str} {params : Arguments} {body : List Stmt} {scope : Scope} {dV kV doc pm cdv ct oc : Value} {an od : Option Addr} {osl : Array (Option Value)} {N : List Str}
    (lk : K.lookup f = some ⟨oc, od, .func (PySem.W.fnOf name qual params body scope dV kV doc pm an cdv ct), osl⟩) (hcd : PySem.W.codeIn K cdv qual = true) (S : FnScope N ps scope) (len : ∀ vs H Q E, sp vs H Q E → vs.length = ps.length)
    (hbody : ∀ (A : Around) (outer : List Env) (s : Shared) (H : Hp) (vs : List V) (Q : VK) (E : XK), Room k (A.deeper (envOfC qual scope s.heap.objs.size f cdv)) → (A.deeper (envOfC qual scope s.heap.objs.size f cdv)).guards = some [] → sp vs H Q E →
      ∃ t, PSs (cxOf CX0 P w K mg base N qual scope f cdv A outer s H E).nox body t ∧ t { nx := fun _ H' => Q .non H', rt := Q } (start N vs) H) :
    FnR P w K mg base (k + 1) f (PySem.W.fnOf name qual params body scope dV kV doc pm an cdv ct) ps sp := by
  refine ⟨len, fun A outer s H args us vs Q E room gd e0 hb rel prom => ?_⟩
  have KX := e0.mod.kin.keeps (h' := s.heap) fun b o e => (e0.bs b o e).1
  have lim := e0.mod.nolimit.keeps (h' := s.heap) fun b o e => (e0.bs b o e).1
  have kinds : ∀ y ∈ ps.zip us, scope.names.lookup y.1 = some .local ∨ (scope.names.lookup y.1 = some .cell ∧ ((cellsFrom (s.heap.objs.size + 1) scope.names []).lookup y.1).isSome = true) := by
    rintro ⟨n, v⟩ hy
    exact (S.par n (List.of_mem_zip hy).1).imp id fun q => ⟨q, PySem.W.cellsFrom_some _ _ _ (.inl q)⟩
  refine codeAny_call_function room.depth (KX _ _ lk) rfl S.co S.gen rfl (PySem.W.codeRec_of KX hcd)
    (hb _ _ _ _ (wpAny_newFunctionEnv_cells S.kind kinds fun env he s1 x => ?_))
  subst he
  refine ⟨lim.keeps x.toInCall.keep, codeAny_func ?_⟩
  obtain ⟨t, ht, hq⟩ := hbody A outer s H vs Q E (room.deeper _) (deeper_guards gd) prom
  have I := inv_start (CX := CX0) (E := E) S room.hd e0 (len _ _ _ _ prom) rel x
  refine wpAny_mono (ht.nox.run [] s1 (start N vs) H _ I hq) (fun fl s' hs => ?_) fun _ _ z => z
  cases fl with
  | ret u =>
    obtain ⟨v, σ', H', J, rv, q⟩ := hs
    exact ⟨v, H', J.os, J.bare, J.base, J.hok, rv, q⟩
  | next =>
    obtain ⟨σ', H', J, q⟩ := hs
    exact ⟨V.non, H', J.os, J.bare, J.base, J.hok, rfl, q⟩
  | brk => exact hs.elim fun _ z => z.elim fun _ z => z.2.elim
  | cont => exact hs.elim fun _ z => z.elim fun _ z => z.2.elim
end
/-! ### what a call of a def asks, in our data -/
section
variable (K : PySem.W.Frag) (cl : Nat → Addr)
def spOf (ar : Nat) (g : List D → M D) : Sp := fun vs H Q _ => ∃ ω ds S, ω.ow = (fun _ => none) ∧ WOk ω H ∧ StoOk K cl ω H S ∧ vs.length = ar ∧ RepL K cl ω H vs ds ∧ (match g ds S with
  | .ok d S' => ∀ ω' v H', Go ω H ω' H' → WOk ω' H' → StoOk K cl ω' H' S' → Rep K cl ω' H' v d → Q v H'
  | _ => False)
end
section
variable {X : Cx} {k : Nat} {f : Addr} {fd : FuncData} {ps : List Str} {sp : Sp}
theorem run_fnr {pins : List (Addr × Obj)} {σ : L2.St} {H : Hp} {s : Shared} {Q : VK} {us : List Value} {vs : List V} (F : FnR X.prog X.w X.K X.mg X.base k f fd ps sp) (hr : Room k X.A) (gd : X.A.guards = some []) (hb : Binds X.K fd ps [])
    (I : Inv X pins σ H s) (r : Vals vs us) (h : sp vs H Q E0) : wpAny (model X.prog X.w) X.A (call (.ref f) us) (EP X pins σ Q) X.xe s := by
  have hl : (us ++ []).length = ps.length := by rw [List.append_nil, ← r.length]; exact F.len _ _ _ _ h
  have hb' := hb s us I.kIn hl
  rw [List.append_nil] at hb'
  refine wpAny_call (codeAny_mono (F.run X.A X.stack s H ⟨us, []⟩ us vs Q E0 hr gd I.env0 hb' r h) fun res s' hq => ?_)
  cases res with
  | error e => exact hq.elim
  | ok fl =>
    cases fl with
    | ret u => exact I.after hq
    | next => exact hq.elim
    | brk => exact hq.elim
    | cont => exact hq.elim
theorem pe_callR {x : Str} {p pos : Pos} {e : Expr} {es : List Expr} {t : TA} (F : FnR X.prog X.w X.K X.mg X.base k f fd ps sp) (hr : Room k X.A) (gd : X.A.guards = some []) (hg : Gl X x) (hm : X.mg x = some (.ref f)) (hk : PySem.W.keepIn X.K (.ref f) = true) (hb : Binds X.K fd ps [])
    (ha : PA X (e :: es) t) (hdb : (x == ("__debug__" : Str)) = false) (he : starEach (e :: es) X.env = (false, eval e X.env) :: starEach es X.env) (hpl : (backTo pos (starEach es X.env)).any (·.1) = false) :
    PE X (.Call (.Name x p) (e :: es) [] pos) (fun σ H Q => t σ H fun vs H1 => sp vs H1 Q E0) := by
  refine ⟨fun pins s σ H Q I h => wpAny_Call_Name_kw (ld_glob I hg hm (PySem.W.callWith_K (h₀ := X.base) I.ok.mod.kin hk ?_ he hpl) hdb)⟩
  exact thn (ha.run pos pins s σ H _ I h) fun us s1 ⟨vs, H1, I1, r, q⟩ => ⟨I1.kIn, run_fnr F hr gd hb I1 r q⟩
theorem pe_callR0 {x : Str} {p pos : Pos} (F : FnR X.prog X.w X.K X.mg X.base k f fd ps sp) (hr : Room k X.A) (gd : X.A.guards = some []) (hg : Gl X x) (hm : X.mg x = some (.ref f)) (hk : PySem.W.keepIn X.K (.ref f) = true) (hb : Binds X.K fd ps [])
    (hdb : (x == ("__debug__" : Str)) = false) : PE X (.Call (.Name x p) [] [] pos) (fun σ H Q => sp [] H Q E0) :=
  ⟨fun pins s σ H Q I h => wpAny_Call_Name_kw (ld_glob I hg hm (PySem.W.callWith_K0 I.kIn hk (run_fnr (us := []) F hr gd hb I .nil h)) hdb)⟩
/-- no star in a list of arguments -/
theorem noStar : ∀ {es : List Expr} {env : Env} {pos : Pos}, es.all okShape = true → (backTo pos (starEach es env)).any (·.1) = false := by
  intro es env pos h
  have e1 : ∀ es : List Expr, es.all okShape = true → (starEach es env).any (·.1) = false := by
    intro es
    induction es with
    | nil => intro _; rfl
    | cons e es ih =>
      intro h
      rw [List.all_cons, Bool.and_eq_true] at h
      rw [shape_star h.1, List.any_cons, ih h.2]
      rfl
  have e2 : ∀ l : List (Bool × Sem Value), (backTo pos l).any (·.1) = l.any (·.1) := by
    intro l
    unfold backTo
    induction l with
    | nil => rfl
    | cons p l ih => simp_all
  rw [e2, e1 es h]
variable {K : PySem.W.Frag} {cl : Nat → Addr} {own : List Nat} {b : Bool}
/-- from what a body knows to what a callee asks, and back -/
theorem sp_of {ω : Wd} {H : Hp} {σ : L2.St} {δ : En} {S : Sto} {Q : VK} {ar : Nat} {g : List D → M D} {vs : List V} {ds : List D} {E : XK} (s : SR K cl own ω σ H δ S) (hl : vs.length = ar) (r : RepL K cl ω H vs ds)
    (q : pG K cl own (RepF K cl b) ω H σ δ Q (g ds S)) : spOf K cl ar g vs H Q E := by
  have e1 : ∀ a, Wd.bar { rho := ω.rho, ow := fun _ => none, av := fun a => ω.av a ∨ ∃ i, ω.ow i = some a } a ↔ ω.bar a := fun a => by
    constructor
    · rintro (z | ⟨i, z⟩ | z | z)
      · exact .inl z
      · cases z
      · exact .inr (.inr z)
      · exact .inr (.inl z)
    · rintro (z | z | z)
      · exact .inl z
      · exact .inr (.inr (.inr z))
      · exact .inr (.inr (.inl z))
  refine ⟨{ rho := ω.rho, ow := fun _ => none, av := fun a => ω.av a ∨ ∃ i, ω.ow i = some a }, ds, S, rfl, ⟨s.wok.nd, s.wok.rho, (fun i a z => nomatch z), (fun i j a z => nomatch z), fun a z => ?_⟩, ⟨s.sto.len, fun n a d h1 h2 => ?_⟩, hl, r.as rfl fun a z => (e1 a).mp z, ?_⟩
  · rcases z with z | ⟨i, z⟩
    · exact s.wok.av a z
    · exact ⟨(s.wok.ow i a z).1, (s.wok.ow i a z).2.1⟩
  · have := s.sto.obj n a d h1 h2
    cases d with
    | lst ds => obtain ⟨vs, q, r⟩ := this; exact ⟨vs, q, r.as rfl fun a z => (e1 a).mp z⟩
    | dct ds => obtain ⟨vs, q, r⟩ := this; exact ⟨vs, q, r.as rfl fun a z => (e1 a).mp z⟩
    | ins c gs => obtain ⟨dx, fs, q, r⟩ := this; exact ⟨dx, fs, q, r.as rfl fun a z => (e1 a).mp z⟩
    | _ => exact this.elim
  · cases e : g ds S with
    | exc _ _ => rw [e] at q; exact q.elim
    | no => rw [e] at q; exact q.elim
    | ok d S' =>
      rw [e] at q
      intro ω' v H' go wok sto rv
      have eo : ω'.ow = fun _ => none := go.eq
      have ea : ω'.av = fun a => ω.av a ∨ ∃ i, ω.ow i = some a := go.ea
      -- the caller's world behind the call
      have e2 : ∀ a, Wd.bar { rho := ω'.rho, ow := ω.ow, av := ω.av } a ↔ ω'.bar a := fun a => by
        unfold Wd.bar
        rw [eo, ea]
        constructor
        · rintro (z | z | z)
          · exact .inl z
          · exact .inr (.inr (.inr z))
          · exact .inr (.inr (.inl z))
        · rintro (z | ⟨i, z⟩ | z | z)
          · exact .inl z
          · cases z
          · exact .inr (.inr z)
          · exact .inr (.inl z)
      have go2 : Go ω H { rho := ω'.rho, ow := ω.ow, av := ω.av } H' := by
        exact ⟨⟨go.st.pre, (fun a o h n _ => go.st.keep a o h n (fun _ z => nomatch z)), go.st.tup, go.st.new, (fun i a z => .inl z), (fun a z => .inl z), go.st.dom⟩, rfl, rfl⟩
      have keepO : ∀ i a, ω.ow i = some a → H' a = H a := fun i a z => by
        cases ho : H a with
        | none => exact absurd ho (s.wok.ow i a z).1
        | some o => exact go.st.keep a o ho (s.wok.ow i a z).2.1 fun _ z => nomatch z
      refine q { rho := ω'.rho, ow := ω.ow, av := ω.av } v H' go2 ⟨s.len, ⟨wok.nd, wok.rho, fun i a z => ?_, s.wok.inj, fun a z => ?_⟩, fun i d h1 h2 => ?_, fun i d h1 h2 => ?_, ⟨sto.len, fun n a d h1 h2 => ?_⟩⟩ (RepF.of (rv.as rfl fun a z => (e2 a).mp z))
      · have h := s.wok.ow i a z
        exact ⟨go.st.dom a h.1, go.st.new a h.1 h.2.1, h.2.2⟩
      · have h := s.wok.av a z
        exact ⟨go.st.dom a h.1, go.st.new a h.1 h.2⟩
      · obtain ⟨v, z, y⟩ := s.slot i d h1 h2
        exact ⟨v, z, y.go go2.st⟩
      · rcases s.osl i d h1 h2 with ⟨a, z, y, x⟩ | ⟨hm, v, z, y⟩
        · exact .inl ⟨a, z, y, x.go go2.st (keepO i a y)⟩
        · exact .inr ⟨hm, v, z, y.go go2.st⟩
      · have := sto.obj n a d h1 h2
        cases d with
        | lst ds => obtain ⟨vs, q, r⟩ := this; exact ⟨vs, q, r.as rfl fun a z => (e2 a).mp z⟩
        | dct ds => obtain ⟨vs, q, r⟩ := this; exact ⟨vs, q, r.as rfl fun a z => (e2 a).mp z⟩
        | ins c gs => obtain ⟨dx, fs, q, r⟩ := this; exact ⟨dx, fs, q, r.as rfl fun a z => (e2 a).mp z⟩
        | _ => exact this.elim
theorem re_call {x : Str} {p pos : Pos} {e : Expr} {es : List Expr} {gs : En → M (List D)} {ar : Nat} {g : List D → M D} (F : FnR X.prog X.w X.K X.mg X.base k f fd ps (spOf X.K cl ar g)) (hr : Room k X.A) (gd : X.A.guards = some []) (hg : Gl X x) (hm : X.mg x = some (.ref f)) (hk : PySem.W.keepIn X.K (.ref f) = true)
    (hb : Binds X.K fd ps []) (hdb : (x == ("__debug__" : Str)) = false) (ha : PA X (e :: es) (tA X.K cl own false gs)) (hs : okShape e = true ∧ es.all okShape = true) (hgl : ∀ δ S ds S', gs δ S = .ok ds S' → ds.length = ar) :
    PE X (.Call (.Name x p) (e :: es) [] pos) (tE X.K cl own b fun δ => do g (← gs δ)) := by
  refine (pe_callR F hr gd hg hm hk hb ha hdb (shape_star hs.1) (noStar hs.2)).imp fun σ H Q ⟨ω, δ, S, s, q⟩ => ⟨ω, δ, S, s, ?_⟩
  dsimp only at q
  rw [M.bind_run] at q
  cases e : gs δ S with
  | exc _ _ => rw [e] at q; exact q.elim
  | no => rw [e] at q; exact q.elim
  | ok ds S1 =>
    rw [e] at q
    intro ω1 vs H1 g1 s1 r1
    exact sp_of s1 (by rw [r1.len]; exact hgl δ S ds S1 e) r1.l (pG.go q g1)
theorem re_call0 {x : Str} {p pos : Pos} {g : List D → M D} (F : FnR X.prog X.w X.K X.mg X.base k f fd ps (spOf X.K cl 0 g)) (hr : Room k X.A) (gd : X.A.guards = some []) (hg : Gl X x) (hm : X.mg x = some (.ref f)) (hk : PySem.W.keepIn X.K (.ref f) = true)
    (hb : Binds X.K fd ps []) (hdb : (x == ("__debug__" : Str)) = false) : PE X (.Call (.Name x p) [] [] pos) (tE X.K cl own b fun δ => do g (← (pure [] : M (List D)))) :=
  (pe_callR0 F hr gd hg hm hk hb hdb).imp fun σ H Q ⟨ω, δ, S, s, q⟩ => sp_of s rfl RepL.nil q
end
end RF
end
section
set_option linter.all false
set_option maxRecDepth 100000
set_option maxHeartbeats 4000000
set_option autoImplicit false
/-! RfSnd7: builtins by their names, isinstance, slices, f-strings. -/
namespace RF
open PySem PySem.Spec L2
open PyProof.Rows hiding St
/-! ### isinstance -/
def tyD (cl : Nat → Addr) : D → Value
  | .non => .type "NoneType"
  | .bl _ => .type "bool"
  | .int _ => .type "int"
  | .str _ => .type "str"
  | .tup _ => .type "tuple"
  | .lst _ => .type "list"
  | .frz _ => .type "list"
  | .dct _ => .type "dict"
  | .ins c _ => .ref (cl c)
  | .obj _ => .none
def kitT (cl : Nat → Addr) : Ty → Value
  | .int => .type "int"
  | .bool => .type "bool"
  | .str => .type "str"
  | .tuple => .type "tuple"
  | .cls c => .ref (cl c)
def kitV (cl : Nat → Addr) : Ty → V
  | .int => .ty "int"
  | .bool => .ty "bool"
  | .str => .ty "str"
  | .tuple => .ty "tuple"
  | .cls c => .ref (cl c)
theorem kitV_is (cl : Nat → Addr) (t : Ty) : ClsV (kitV cl t) (kitT cl t) := by
  cases t with
  | cls c => exact .own _
  | _ => exact .ty _
/-- what isinstance asks of the classes that the text has -/
structure ClsOk (K : PySem.W.Frag) (C : Addr) : Prop where
  cl : Cls K C
  ha : PySem.W.findIn K (.ref C) "__class__" = some (some (.builtin "object.__class__"))
  hn : PySem.W.specialIn K (.builtin "object.__class__") "__get__" = some (some (.builtin "getset_descriptor.__get__"))
  htk : PySem.W.takesIn K (.builtin "object.__class__") = some true
  hm : PySem.W.mroIn K C (.type "object") = some true
def notObj : D → Bool
  | .obj _ => false
  | _ => true
section
variable {K : PySem.W.Frag} {cl : Nat → Addr} {own : List Nat} {X : Cx} {a c e : Expr} {es : List Expr} {p pos : Pos} {f g : En → M D} {gs : En → M (List D)} {b : Bool} {ω : Wd} {H : Hp} {σ : L2.St} {δ : En} {S : Sto} {v : V} {d : D}
theorem Own.ty {q : Addr} (r : Own K cl ω H q d) (hc : ∀ c l, d = .ins c l → ClsOk K (cl c)) : TyX K H (.ref q) (tyD cl d) := by
  cases d with
  | lst l => obtain ⟨vs, z, _⟩ := r; exact .base (.lst z)
  | dct l => obtain ⟨vs, z, _⟩ := r; exact .base (.dK z)
  | ins c l =>
    obtain ⟨dx, fs, z, _⟩ := r
    have k := hc c l rfl
    exact .base (.ins z k.cl k.ha k.hn k.htk k.hm)
  | _ => exact r.elim
theorem Rep.ty (r : Rep K cl ω H v d) (ho : notObj d = true) (hc : ∀ c l, d = .ins c l → ClsOk K (cl c)) : TyX K H v (tyD cl d) := by
  cases r with
  | non => exact .base .non
  | bl b => exact .base (.bl b)
  | int i => exact .base (.int i)
  | str x => exact .base (.str x)
  | tup h l e =>
    rcases h with ⟨o, h, _⟩ | ⟨o, its, n, h1, h2, _⟩
    · exact .fTuple h
    · exact .kTuple h1 h2
  | lst h n l e => exact .base (.lst h)
  | dct h n l ek e => exact .base (.dK h)
  | ins h n l ek e =>
    have k := hc _ _ rfl
    exact .base (.ins h k.cl k.ha k.hn k.htk k.hm)
  | obj h => cases ho
  | frz h l e =>
    rcases h with ⟨o, h, _⟩ | (h | ⟨o, h⟩) | ⟨o, its, n, h1, h2, _⟩
    · exact .base (.frz h)
    · cases h
    · cases h
    · exact .kList h1 h2
theorem RepB.ty (r : RepB K cl ω H v d) (ho : notObj d = true) (hc : ∀ c l, d = .ins c l → ClsOk K (cl c)) : TyX K H v (tyD cl d) := by
  rcases r with r | ⟨q, i, rfl, _, z⟩
  · exact r.ty ho hc
  · exact z.ty hc
theorem re_isi {x : Str} {eT : Expr} {t : Ty} (hg : Gl X x) (hx : x = "isinstance") (hm : X.mg x = none) (ha : PE X a (tE X.K cl own true f)) (hT : PE X eT (tC (kitV cl t))) (hs : okShape a = true) (hs2 : okShape eT = true)
    {n : Nat} (kit : ∀ d, notObj d = true → clsIn n d = true → PySem.W.kitOne X.K (tyD cl d) (kitT cl t) = some (isTy t d)) (hc : ∀ c, c < n → ClsOk X.K (cl c)) :
    PE X (.Call (.Name x p) [a, eT] [] pos) (tE X.K cl own b fun δ => do
      let x ← f δ
      fun s => match isD n s t x with
        | some b => .ok (.bl b) s
        | none => .no) := by
  subst hx
  refine (pe_callB (id := "isinstance") call_isi hg hm (by decide +kernel) (pa_cons ha (pa_cons hT pa_nil (shape_star hs2)) (shape_star hs)) (by decide) (by decide) (shape_star hs) (noStar (by simp [hs2]))).imp fun σ H Q ⟨ω, δ, S, s, q⟩ => ?_
  refine ⟨ω, δ, S, s, pG_bind (k := fun x s => match isD n s t x with
    | some b => Out.ok (D.bl b) s
    | none => Out.no) q fun ω1 v H1 x S1 g1 s1 r1 q1 => ?_⟩
  have fin : ∀ d, TyX X.K H1 v (tyD cl d) → notObj d = true → clsIn n d = true → isD n S1 t x = some (isTy t d) → rIsi X.K [v, kitV cl t] H1 Q := fun d ty no ci e => by
    rw [e] at q1
    exact ⟨v, kitV cl t, tyD cl d, kitT cl t, isTy t d, rfl, kitV_is cl t, ty, kit d no ci, pG.ret q1 s1 (.bl _)⟩
  by_cases no : notObj x = true
  · by_cases ci : clsIn n x = true
    · exact fin x (RepB.ty r1 no fun c l e => hc c (by subst e; simpa [clsIn] using ci)) no ci (by cases x <;> first | (simp only [isD, if_pos ci]; done) | cases no)
    · have e : isD n S1 t x = none := by cases x <;> first | (simp only [isD, if_neg ci]; done) | cases no
      rw [e] at q1
      exact q1.elim
  · cases x with
    | obj m =>
      simp only [isD] at q1
      cases e : S1[m]? with
      | none => rw [e] at q1; exact q1.elim
      | some o =>
        rcases r1 with r1 | ⟨_, _, _, _, z⟩
        · cases r1 with
          | @obj q _ hq =>
            have ow := s1.sto.obj m q o hq e
            cases o with
            | lst l => exact fin (.lst l) (ow.ty fun c l e => nomatch e) rfl rfl (by simp only [isD, e])
            | dct l => exact fin (.dct l) (ow.ty fun c l e => nomatch e) rfl rfl (by simp only [isD, e])
            | ins c l =>
              rw [e] at q1
              dsimp only at q1
              by_cases ci : c < n
              · exact fin (.ins c l) (ow.ty fun c' l' e' => by cases e'; exact hc c ci) rfl (by simp [clsIn, ci]) (by simp only [isD, e, if_pos ci])
              · rw [if_neg ci] at q1
                exact q1.elim
            | _ => exact ow.elim
        · exact z.elim
    | _ => exact absurd rfl no
/-! ### builtins by their names -/
def biVal : Bi → Value
  | .len => .builtin "len" | .tuple => .type "tuple" | .list => .type "list" | .dict => .type "dict" | .sorted => .builtin "sorted" | .sortedSet => .builtin "sorted" | .abs => .builtin "abs"
  | .min => .builtin "min" | .max => .builtin "max" | .int => .type "int" | .bool => .type "bool" | .str => .type "str" | .repr => .builtin "repr" | .all => .builtin "all" | .any => .builtin "any" | .divmod => .builtin "divmod"
def biNm : Bi → Str
  | .len => "len" | .tuple => "tuple" | .list => "list" | .dict => "dict" | .sorted => "sorted" | .sortedSet => "sorted" | .abs => "abs"
  | .min => "min" | .max => "max" | .int => "int" | .bool => "bool" | .str => "str" | .repr => "repr" | .all => "all" | .any => "any" | .divmod => "divmod"
theorem boot_bi (B : Bi) : bootBuiltins (biNm B) = some (biVal B) := by cases B <;> decide +kernel
theorem pe_bi {r : List V → Hp → VK → Prop} {t : TA} {x : Str} (B : Bi) (hx : x = biNm B) (hc : CallR X (biVal B) r) (hg : Gl X x) (hm : X.mg x = none) (ha : PA X (e :: es) t) (hs : okShape e = true) (hs2 : es.all okShape = true) :
    PE X (.Call (.Name x p) (e :: es) [] pos) (tCB r t) := by
  have hb := boot_bi B
  subst hx
  cases B with
  | tuple => exact pe_callTy hc hg hm hb ha (by decide) (by decide) (shape_star hs) (noStar hs2)
  | list => exact pe_callTy hc hg hm hb ha (by decide) (by decide) (shape_star hs) (noStar hs2)
  | dict => exact pe_callTy hc hg hm hb ha (by decide) (by decide) (shape_star hs) (noStar hs2)
  | int => exact pe_callTy hc hg hm hb ha (by decide) (by decide) (shape_star hs) (noStar hs2)
  | bool => exact pe_callTy hc hg hm hb ha (by decide) (by decide) (shape_star hs) (noStar hs2)
  | str => exact pe_callTy hc hg hm hb ha (by decide) (by decide) (shape_star hs) (noStar hs2)
  | _ => exact pe_callB hc hg hm hb ha (by decide) (by decide) (shape_star hs) (noStar hs2)
theorem call_lenD : CallR X (.builtin "len") (fun xs H Q => ∃ p kvs, xs = [.ref p] ∧ H p = some (.dK kvs) ∧ Q (.int kvs.length) H) := by
  intro pins s σ H vs us Q I r h
  obtain ⟨q, kvs, rfl, hq, z⟩ := h
  rw [Vals.ref1 r]
  exact d_len I (.inl hq) fun t s' I' => ⟨.int kvs.length, H, I', ⟨t, rfl⟩, z⟩
theorem call_dictC : CallR X (.type "dict") (fun xs H Q => ∃ p kvs, xs = [.ref p] ∧ H p = some (.dK kvs) ∧ ∀ l, H l = none → Q (.ref l) (upd H l (.dK kvs))) := by
  intro pins s σ H vs us Q I r h
  obtain ⟨q, kvs, rfl, hq, z⟩ := h
  rw [Vals.ref1 r]
  exact d_copyOf I (.inl hq) fun p s' hp I' => ⟨.ref p, _, I', rfl, z p hp⟩
theorem call_reprD (hu : X.A.units + 128 < cLine) (hg : X.A.guards = some []) : CallR X (.builtin "repr") (fun xs H Q => ∃ (p : Addr) (d : PyData), xs = [.ref p] ∧ Dp X.K H (.ref p) d ∧ d.showable = true ∧ d.hasDict = false ∧ d.depth ≤ 64 ∧ d.shown.length ≤ sizeLine ∧ Q (.str d.shown) H) := by
  intro pins s σ H vs us Q I r h
  obtain ⟨q, d, rfl, hq, h1, h2, h3, h4, z⟩ := h
  rw [Vals.ref1 r]
  obtain ⟨as, rd⟩ := hq.reads I d (.ref q) (.ref q) rfl
  exact repr_of_reads' rd h1 (fun e => by rw [h2] at e; cases e) hg (by omega) (fun _ _ e => e) (fun h' u tk hk => ⟨.str d.shown, H, I.kept hk, ⟨u, rfl⟩, z⟩) h4
def rBi (K : PySem.W.Frag) : Bi → List V → Hp → VK → Prop
  | .len => fun xs H Q => (∃ x n, xs = [x] ∧ LenV K x H n ∧ Q (.int n) H) ∨ ∃ p kvs, xs = [.ref p] ∧ H p = some (.dK kvs) ∧ Q (.int kvs.length) H
  | .tuple => fun xs H Q => ∃ p ys, xs = [.ref p] ∧ ((SqL K H p ys ∧ NewTup H Q ys) ∨ (SqT K H p ys ∧ Q (.ref p) H))
  | .list => fun xs H Q => (∃ p ys, xs = [.ref p] ∧ (SqL K H p ys ∨ SqT K H p ys) ∧ ∀ l, H l = none → Q (.ref l) (upd H l (.lst ys))) ∨
      ∃ z : Str, xs = [.str z] ∧ z.length ≤ sizeLine ∧ ∀ l, H l = none → Q (.ref l) (upd H l (.lst (z.cps.toList.map fun c => V.str ⟨#[c]⟩)))
  | .dict => fun xs H Q => (∃ p kvs, xs = [.ref p] ∧ H p = some (.dK kvs) ∧ ∀ l, H l = none → Q (.ref l) (upd H l (.dK kvs))) ∨
      (∃ (a : Addr) (ps : List Addr) (kvs : List (Key × V)), xs = [.ref a] ∧ SqL K H a (ps.map V.ref) ∧ Paired (fun p kv => SqT K H p [kV kv.1, kv.2]) ps kvs ∧ ∀ p, H p = none → Q (.ref p) (upd H p (.dK (mergeK [] kvs)))) ∨
      ∃ (a : Addr) (ps : List Addr) (kvs : List (Key × V)), xs = [.ref a] ∧ PTu K H a (ps.map V.ref) ∧ Paired (fun p kv => SqT K H p [kV kv.1, kv.2]) ps kvs ∧ ∀ p, H p = none → Q (.ref p) (upd H p (.dK (mergeK [] kvs)))
  | .sorted => fun xs H Q => rSortedS K xs H Q ∨ rSortedT K xs H Q
  | .abs => fun xs H Q => ∃ i, xs = [.int i] ∧ Q (.int (if i < 0 then -i else i)) H
  | .min => fun xs H Q => ∃ i j, xs = [.int i, .int j] ∧ Q (.int (if j < i then j else i)) H
  | .max => fun xs H Q => ∃ i j, xs = [.int i, .int j] ∧ Q (.int (if j > i then j else i)) H
  | .int => fun xs H Q => (∃ i, xs = [.int i] ∧ Q (.int i) H) ∨ ∃ k, xs = [.bl k] ∧ Q (.int (if k then 1 else 0)) H
  | .repr => fun xs H Q => ∃ (p : Addr) (d : PyData), xs = [.ref p] ∧ Dp K H (.ref p) d ∧ d.showable = true ∧ d.hasDict = false ∧ d.depth ≤ 64 ∧ d.shown.length ≤ sizeLine ∧ Q (.str d.shown) H
  | .all => rAll K
  | .any => rAny K
  | .divmod => fun xs H Q => ∃ i j, xs = [.int i, .int j] ∧ CDiv i j ∧ NewTup H Q [.int (i / j), .int (i % j)]
  | _ => fun _ _ _ => False
theorem call_none {fv : Value} : CallR X fv (fun _ _ _ => False) := fun _ _ _ _ _ _ _ _ _ h => h.elim
theorem op_bi (hc : X.calm = true) (hu : X.A.units + 128 < cLine) (hg : X.A.guards = some []) (B : Bi) : CallR X (biVal B) (rBi X.K B) := by
  cases B with
  | len => exact call_len.or call_lenD
  | tuple => exact call_tupF
  | list => exact call_list_of.or (call_list_strX hc)
  | dict => exact call_dictC.or ((call_dictP hc).or (call_dictT hc))
  | sorted => exact cr_sortedS.or cr_sortedT
  | abs => exact call_abs
  | min => exact call_min2 hc
  | max => exact call_max2 hc
  | int => exact call_int1
  | repr => exact call_reprD hu hg
  | all => exact cr_all hc
  | any => exact cr_any hc
  | divmod => exact call_divF
  | _ => exact call_none
end
end RF
end
section
set_option linter.all false
set_option maxRecDepth 100000
set_option maxHeartbeats 4000000
set_option autoImplicit false
/-! RfSnd8: what the builtins give. -/
namespace RF
open PySem PySem.Spec L2
open PyProof.Rows hiding St
/-! ### sorting texts -/
theorem str_ext {x y : Str} (h : x.cps.toList = y.cps.toList) : x = y := by
  cases x; cases y
  simp only at h
  congr 1
  exact Array.ext' h
theorem strLe_trans {x y z : Str} (h : strLe x y = true) (k : strLe y z = true) : strLe x z = true :=
  decide_eq_true (List.le_trans (of_decide_eq_true h) (of_decide_eq_true k))
theorem strLe_anti {x y : Str} (h : strLe x y = true) (k : strLe y x = true) : x = y :=
  str_ext (List.le_antisymm (of_decide_eq_true h) (of_decide_eq_true k))
theorem strLe_total (x y : Str) : strLe x y = true ∨ strLe y x = true := by
  rcases List.le_total x.cps.toList y.cps.toList with h | h
  · exact .inl (decide_eq_true h)
  · exact .inr (decide_eq_true h)
theorem insertS_perm (x : Str) : ∀ l : List Str, (insertS x l).Perm (x :: l)
  | [] => .refl _
  | y :: r => by
    unfold insertS
    split
    · exact .refl _
    · exact ((insertS_perm x r).cons y).trans (.swap x y r)
theorem sortS_perm : ∀ l : List Str, (sortS l).Perm l
  | [] => .refl _
  | x :: r => (insertS_perm x (sortS r)).trans ((sortS_perm r).cons x)
theorem insertS_sorted (x : Str) : ∀ l : List Str, l.Pairwise (fun a b => strLe a b = true) → (insertS x l).Pairwise fun a b => strLe a b = true
  | [], _ => by simp [insertS]
  | y :: r, h => by
    have h' := List.pairwise_cons.mp h
    unfold insertS
    split
    · rename_i hx
      refine List.pairwise_cons.mpr ⟨fun a ha => ?_, h⟩
      rcases List.mem_cons.mp ha with rfl | ha
      · exact hx
      · exact strLe_trans hx (h'.1 a ha)
    · rename_i hx
      refine List.pairwise_cons.mpr ⟨fun a ha => ?_, insertS_sorted x r h'.2⟩
      rcases List.mem_cons.mp ((insertS_perm x r).mem_iff.mp ha) with rfl | ha
      · exact (strLe_total a y).resolve_left hx
      · exact h'.1 a ha
theorem sortS_sorted : ∀ l : List Str, (sortS l).Pairwise fun a b => strLe a b = true
  | [] => .nil
  | x :: r => insertS_sorted x _ (sortS_sorted r)
theorem sorted_eq {l m : List Str} (p : l.Perm m) (h : l.Pairwise fun a b => strLe a b = true) (k : m.Pairwise fun a b => strLe a b = true) : l = m :=
  p.eq_of_pairwise (fun a b _ _ h k => strLe_anti h k) h k
theorem rising_pairwise : ∀ (l : List Str) (x : Str), risingS x l = true → (x :: l).Pairwise fun a b => strLe a b = true
  | [], x, _ => by simp
  | y :: r, x, h => by
    unfold risingS at h
    have h0 : ltCps y.cps.toList x.cps.toList = false ∧ risingS y r = true := by simpa using h
    have h1 : ¬ y.cps.toList < x.cps.toList ∧ risingS y r = true := ⟨(fun z => by
      rw [PyProof.Rows.ltCps_eq, decide_eq_true z] at h0
      exact Bool.noConfusion h0.1), h0.2⟩
    have ih := rising_pairwise r y h1.2
    have hxy : strLe x y = true := decide_eq_true (List.not_lt.mp h1.1)
    refine List.pairwise_cons.mpr ⟨fun a ha => ?_, ih⟩
    rcases List.mem_cons.mp ha with rfl | ha
    · exact hxy
    · exact strLe_trans hxy ((List.pairwise_cons.mp ih).1 a ha)
theorem sortedS_eq {ys xs : List Str} (p : ys.Perm xs) (h : sortedS ys = true) : ys = sortS xs := by
  refine sorted_eq (p.trans (sortS_perm xs).symm) ?_ (sortS_sorted xs)
  cases ys with
  | nil => exact .nil
  | cons x r => exact rising_pairwise r x h
/-! ### lists of texts, of truth values, of pairs -/
section
variable {K : PySem.W.Frag} {cl : Nat → Addr} {own : List Nat} {X : Cx} {a c e : Expr} {es : List Expr} {p pos : Pos} {f g : En → M D} {gs : En → M (List D)} {b : Bool} {ω : Wd} {H : Hp} {σ : L2.St} {δ : En} {S : Sto} {v : V} {d : D} {Q : VK}
theorem rep_strs : ∀ {ds : List D} {vs : List V} {xs : List Str}, RepL K cl ω H vs ds → strsOf ds = some xs → vs = xs.map V.str
  | [], vs, xs, r, h => by
    cases h
    exact List.length_eq_zero_iff.mp r.1
  | d :: ds, vs, xs, r, h => by
    cases vs with
    | nil => have := r.1; simp at this
    | cons v vs =>
      cases d with
      | str x =>
        unfold strsOf at h
        cases e : strsOf ds with
        | none => rw [e] at h; cases h
        | some ys =>
          rw [e] at h
          cases h
          have hv : v = .str x := RepB.str (.inl r.head)
          rw [hv, rep_strs r.tail e]
          rfl
      | _ => cases h
theorem rep_bls : ∀ {ds : List D} {vs : List V} {xs : List Bool}, RepL K cl ω H vs ds → blsOf ds = some xs → vs = xs.map V.bl
  | [], vs, xs, r, h => by
    cases h
    exact List.length_eq_zero_iff.mp r.1
  | d :: ds, vs, xs, r, h => by
    cases vs with
    | nil => have := r.1; simp at this
    | cons v vs =>
      cases d with
      | bl x =>
        unfold blsOf at h
        cases e : blsOf ds with
        | none => rw [e] at h; cases h
        | some ys =>
          rw [e] at h
          cases h
          have hv : v = .bl x := RepB.bl (.inl r.head)
          rw [hv, rep_bls r.tail e]
          rfl
      | _ => cases h
theorem repL_strs (xs : List Str) : RepL K cl ω H (xs.map V.str) (xs.map D.str) := by
  induction xs with
  | nil => exact RepL.nil
  | cons x xs ih => exact RepL.cons (.str x) ih
theorem repL_signs (l : List Nat) : RepL K cl ω H (l.map fun c => V.str ⟨#[c]⟩) (l.map fun c => D.str (sgn c)) := by
  induction l with
  | nil => exact RepL.nil
  | cons x l ih => exact RepL.cons (.str (sgn x)) ih
theorem rep_key {k : D} {q : Ky} (r : Rep K cl ω H v k) (h : keyOf k = some q) : v = kV q := by
  cases k with
  | int i => cases h; exact RepB.int (.inl r)
  | str x => cases h; exact RepB.str (.inl r)
  | _ => cases h
theorem rep_pairs : ∀ {ds : List D} {vs : List V} {m : List (Ky × D)}, RepL K cl ω H vs ds → pairsOf ds = some m → ∃ (ps : List Addr) (kvs : List (Key × V)), vs = ps.map V.ref ∧ Paired (fun p kv => SqT K H p [kV kv.1, kv.2]) ps kvs ∧ RepK K cl ω H kvs m
  | [], vs, m, r, h => by
    cases h
    rw [List.length_eq_zero_iff.mp r.1]
    exact ⟨[], [], rfl, .nil, RepK.nil⟩
  | d :: ds, vs, m, r, h => by
    cases vs with
    | nil => have := r.1; simp at this
    | cons v vs =>
      cases d with
      | tup l =>
        match l, h, r with
        | [k, w], h, r =>
          unfold pairsOf at h
          cases e1 : keyOf k with
          | none => rw [e1] at h; cases h
          | some q =>
            cases e2 : pairsOf ds with
            | none => rw [e1, e2] at h; cases h
            | some m' =>
              rw [e1, e2] at h
              cases h
              obtain ⟨ps, kvs, h1, h2, h3⟩ := rep_pairs r.tail e2
              obtain ⟨a, ws, rfl, ha, hr⟩ := r.head.seqT
              have hl : ws.length = 2 := hr.1
              match ws, hl, ha, hr with
              | [u1, u2], _, ha, hr =>
                have hk := rep_key hr.head e1
                subst hk
                exact ⟨a :: ps, (q, u2) :: kvs, by rw [h1]; rfl, .cons ha h2, RepK.cons rfl hr.tail.head h3⟩
        | [], h, _ => cases h
        | [_], h, _ => cases h
        | _ :: _ :: _ :: _, h, _ => cases h
      | _ => cases h
theorem rep_merge : ∀ {kvs : List (Key × V)} {m : List (Ky × D)}, RepK K cl ω H kvs m → ∀ {us : List (Key × V)} {l : List (Ky × D)}, RepK K cl ω H us l → RepK K cl ω H (mergeK us kvs) (dputs l m)
  | [], m, r, us, l, q => by
    rcases r.cases_on with ⟨_, rfl⟩ | ⟨_, _, _, _, e, _⟩
    · exact q
    · cases e
  | p :: kvs, m, r, us, l, q => by
    rcases r.cases_on with ⟨e, _⟩ | ⟨p', j, vr, dr, e, rfl, e1, r1, r2⟩
    · cases e
    · cases e
      obtain ⟨p1, p2⟩ := p
      obtain ⟨j1, j2⟩ := j
      simp only at e1
      subst e1
      exact rep_merge r2 (q.put r1)
theorem Rep.newD {vs : List (Key × V)} {ds : List (Ky × D)} {p : Addr} (r : RepK K cl ω H vs ds) (hp : H p = none) (k : WOk ω H) : Rep K cl ω (L2.upd H p (.dK vs)) (.ref p) (.dct ds) := by
  have r' := r.go (Go.upd (o := HO.dK vs) hp k).st
  exact .dct upd_same (k.fresh hp) r'.1 (fun i k v q d h1 h2 => (r'.2 i k v q d h1 h2).1) fun i k v q d h1 h2 => (r'.2 i k v q d h1 h2).2
theorem py_nodict : ∀ d : D, (D.py d).hasDict = false := by
  have h : ∀ n : Nat, (∀ d : D, sizeOf d < n → (D.py d).hasDict = false) ∧ ∀ l : List D, sizeOf l < n → PyData.hasDictAll (D.pys l) = false := by
    intro n
    induction n with
    | zero => exact ⟨fun d z => absurd z (by omega), fun l z => absurd z (by omega)⟩
    | succ n ih =>
      refine ⟨fun d z => ?_, fun l z => ?_⟩
      · cases d with
        | tup l => simp only [D.py, PyData.hasDict]; exact ih.2 l (by simp at z; omega)
        | lst l => simp only [D.py, PyData.hasDict]; exact ih.2 l (by simp at z; omega)
        | _ => rfl
      · cases l with
        | nil => rfl
        | cons d r => simp only [D.pys, PyData.hasDictAll, ih.1 d (by simp at z; omega), ih.2 r (by simp at z; omega), Bool.or_self]
  exact fun d => (h (sizeOf d + 1)).1 d (by omega)
theorem one_of {vs : List V} {d : D} (r : RepFL K cl true ω H vs [d]) : ∃ v, vs = [v] ∧ RepB K cl ω H v d := by
  cases r with
  | cons h t => cases t; exact ⟨_, rfl, h⟩
theorem two_of {vs : List V} {d e : D} (r : RepFL K cl true ω H vs [d, e]) : ∃ v w, vs = [v, w] ∧ RepB K cl ω H v d ∧ RepB K cl ω H w e := by
  cases r with
  | cons h t => cases t with
    | cons h' t' => cases t'; exact ⟨_, _, rfl, h, h'⟩
theorem bi_ok {B : Bi} {ds : List D} {vs : List V} (s : SR K cl own ω σ H δ S) (r : RepFL K cl true ω H vs ds) (q : pG K cl own (RepF K cl b) ω H σ δ Q (biD B ds S)) : rBi K B vs H Q := by
  cases B with
  | sorted =>
    match ds, r, q with
    | [d], r, q =>
      obtain ⟨v, rfl, rv⟩ := one_of r
      cases d with
      | lst l =>
        obtain ⟨a, vs, rfl, ha, ra⟩ := rv.seqL
        simp only [biD] at q
        cases e : strsOf l with
        | none => rw [e] at q; exact q.elim
        | some xs =>
          rw [e] at q
          by_cases hz : xs.length < 64
          · simp only [if_pos hz] at q
            obtain rfl := rep_strs ra e
            refine .inl ⟨a, xs, rfl, ha, hz, fun ys p hp hs hn => ?_⟩
            obtain rfl := sortedS_eq hp hs
            exact pG.new q s hn (Rep.newL (repL_strs _) hn s.wok)
          · simp only [if_neg hz] at q
            exact q.elim
      | tup l =>
        obtain ⟨a, vs, rfl, ha, ra⟩ := rv.tup.seqT
        simp only [biD] at q
        cases e : strsOf l with
        | none => rw [e] at q; exact q.elim
        | some xs =>
          rw [e] at q
          by_cases hz : xs.length < 64
          · simp only [if_pos hz] at q
            obtain rfl := rep_strs ra e
            refine .inr ⟨a, xs, rfl, ha, hz, fun ys p hp hs hn => ?_⟩
            obtain rfl := sortedS_eq hp hs
            exact pG.new q s hn (Rep.newL (repL_strs _) hn s.wok)
          · simp only [if_neg hz] at q
            exact q.elim
      | _ => exact q.elim
    | [], _, q => exact q.elim
    | d :: e :: l, _, q => cases d <;> first | exact q.elim | (cases e <;> exact q.elim)
  | len =>
    match ds, r, q with
    | [d], r, q =>
      obtain ⟨v, rfl, rv⟩ := one_of r
      cases d with
      | tup l =>
        obtain ⟨a, vs, rfl, ha, ra⟩ := rv.tup.seqT
        exact .inl ⟨_, _, rfl, .inr ⟨vs, ha, rfl⟩, by rw [ra.1]; exact pG.ret q s (.int _)⟩
      | lst l =>
        obtain ⟨a, vs, rfl, ha, ra⟩ := rv.seqL
        exact .inl ⟨_, _, rfl, .inl ⟨vs, ha, rfl⟩, by rw [ra.1]; exact pG.ret q s (.int _)⟩
      | frz l =>
        obtain ⟨a, vs, rfl, ha, ra⟩ := rv.seqF
        exact .inl ⟨_, _, rfl, .inl ⟨vs, ha, rfl⟩, by rw [ra.1]; exact pG.ret q s (.int _)⟩
      | dct l =>
        obtain ⟨a, vs, rfl, ha, ra⟩ := rv.dctH
        exact .inr ⟨_, _, rfl, ha, by rw [ra.1]; exact pG.ret q s (.int _)⟩
      | str x =>
        obtain rfl := rv.str
        by_cases hz : x.length ≤ line
        · simp only [biD, if_pos hz] at q
          exact .inl ⟨_, _, rfl, ⟨by rw [← line_eq]; exact hz, rfl⟩, pG.ret q s (.int _)⟩
        · simp only [biD, if_neg hz] at q
          exact q.elim
      | _ => exact q.elim
    | [], _, q => exact q.elim
    | d :: e :: l, _, q => cases d <;> first | exact q.elim | (cases e <;> exact q.elim)
  | tuple =>
    match ds, r, q with
    | [d], r, q =>
      obtain ⟨v, rfl, rv⟩ := one_of r
      cases d with
      | tup l =>
        obtain ⟨a, vs, rfl, ha, ra⟩ := rv.tup.seqT
        exact ⟨a, vs, rfl, .inr ⟨ha, pG.ret q s rv.tup⟩⟩
      | lst l =>
        obtain ⟨a, vs, rfl, ha, ra⟩ := rv.seqL
        exact ⟨a, vs, rfl, .inl ⟨ha, fun p ob hp hd => pG.new q s hp (Rep.newT ra hp hd s.wok)⟩⟩
      | _ => exact q.elim
    | [], _, q => exact q.elim
    | d :: e :: l, _, q => cases d <;> first | exact q.elim | (cases e <;> exact q.elim)
  | list =>
    match ds, r, q with
    | [d], r, q =>
      obtain ⟨v, rfl, rv⟩ := one_of r
      cases d with
      | tup l =>
        obtain ⟨a, vs, rfl, ha, ra⟩ := rv.tup.seqT
        exact .inl ⟨a, vs, rfl, .inr ha, fun p hp => pG.new q s hp (Rep.newL ra hp s.wok)⟩
      | lst l =>
        obtain ⟨a, vs, rfl, ha, ra⟩ := rv.seqL
        exact .inl ⟨a, vs, rfl, .inl ha, fun p hp => pG.new q s hp (Rep.newL ra hp s.wok)⟩
      | str z =>
        simp only [biD] at q
        by_cases hz : z.length ≤ line
        · simp only [if_pos hz] at q
          obtain rfl := rv.str
          refine .inr ⟨z, rfl, by rw [← line_eq]; exact hz, fun p hp => pG.new q s hp (Rep.newL (repL_signs _) hp s.wok)⟩
        · simp only [if_neg hz] at q
          exact q.elim
      | _ => exact q.elim
    | [], _, q => exact q.elim
    | d :: e :: l, _, q => cases d <;> first | exact q.elim | (cases e <;> exact q.elim)
  | dict =>
    match ds, r, q with
    | [d], r, q =>
      obtain ⟨v, rfl, rv⟩ := one_of r
      cases d with
      | dct l =>
        obtain ⟨a, vs, rfl, ha, ra⟩ := rv.dctH
        exact .inl ⟨a, vs, rfl, ha, fun p hp => pG.new q s hp (Rep.newD ra hp s.wok)⟩
      | lst l =>
        obtain ⟨a, vs, rfl, ha, ra⟩ := rv.seqL
        simp only [biD] at q
        cases e : pairsOf l with
        | none => rw [e] at q; exact q.elim
        | some m =>
          rw [e] at q
          by_cases hz : m.length ≤ line
          · simp only [if_pos hz] at q
            obtain ⟨ps, kvs, rfl, h2, h3⟩ := rep_pairs ra e
            exact .inr (.inl ⟨a, ps, kvs, rfl, ha, h2, fun p hp => pG.new q s hp (Rep.newD (rep_merge h3 RepK.nil) hp s.wok)⟩)
          · simp only [if_neg hz] at q
            exact q.elim
      | tup l =>
        obtain ⟨a, vs, rfl, ha, ra⟩ := rv.tup.ptu
        simp only [biD] at q
        cases e : pairsOf l with
        | none => rw [e] at q; exact q.elim
        | some m =>
          rw [e] at q
          by_cases hz : m.length ≤ line
          · simp only [if_pos hz] at q
            obtain ⟨ps, kvs, rfl, h2, h3⟩ := rep_pairs ra e
            exact .inr (.inr ⟨a, ps, kvs, rfl, ha, h2, fun p hp => pG.new q s hp (Rep.newD (rep_merge h3 RepK.nil) hp s.wok)⟩)
          · simp only [if_neg hz] at q
            exact q.elim
      | _ => exact q.elim
    | [], _, q => exact q.elim
    | d :: e :: l, _, q => cases d <;> first | exact q.elim | (cases e <;> exact q.elim)
  | abs =>
    match ds, r, q with
    | [d], r, q =>
      obtain ⟨v, rfl, rv⟩ := one_of r
      cases d with
      | int i => exact ⟨i, by rw [rv.int], pG.ret q s (.int _)⟩
      | _ => exact q.elim
    | [], _, q => exact q.elim
    | d :: e :: l, _, q => cases d <;> first | exact q.elim | (cases e <;> exact q.elim)
  | min =>
    match ds, r, q with
    | [d, e], r, q =>
      obtain ⟨v, w, rfl, rv, rw'⟩ := two_of r
      cases d with
      | int i => cases e with
        | int j => exact ⟨i, j, by rw [rv.int, rw'.int], pG.ret q s (.int _)⟩
        | _ => exact q.elim
      | _ => exact q.elim
    | [], _, q => exact q.elim
    | [d], _, q => cases d <;> exact q.elim
    | d :: e :: _ :: _, _, q => cases d <;> first | exact q.elim | (cases e <;> exact q.elim)
  | max =>
    match ds, r, q with
    | [d, e], r, q =>
      obtain ⟨v, w, rfl, rv, rw'⟩ := two_of r
      cases d with
      | int i => cases e with
        | int j => exact ⟨i, j, by rw [rv.int, rw'.int], pG.ret q s (.int _)⟩
        | _ => exact q.elim
      | _ => exact q.elim
    | [], _, q => exact q.elim
    | [d], _, q => cases d <;> exact q.elim
    | d :: e :: _ :: _, _, q => cases d <;> first | exact q.elim | (cases e <;> exact q.elim)
  | divmod =>
    match ds, r, q with
    | [d, e], r, q =>
      obtain ⟨v, w, rfl, rv, rw'⟩ := two_of r
      cases d with
      | int i => cases e with
        | int j =>
          by_cases hz : 0 < j ∧ j < 1073741824
          · simp only [biD, if_pos hz] at q
            exact ⟨i, j, by rw [rv.int, rw'.int], hz, fun p ob hp hd => pG.new q s hp (Rep.newT (RepL.cons (.int _) (RepL.cons (.int _) RepL.nil)) hp hd s.wok)⟩
          · simp only [biD, if_neg hz] at q
            exact q.elim
        | _ => exact q.elim
      | _ => exact q.elim
    | [], _, q => exact q.elim
    | [d], _, q => cases d <;> exact q.elim
    | d :: e :: _ :: _, _, q => cases d <;> first | exact q.elim | (cases e <;> exact q.elim)
  | int =>
    match ds, r, q with
    | [d], r, q =>
      obtain ⟨v, rfl, rv⟩ := one_of r
      cases d with
      | int i => exact .inl ⟨i, by rw [rv.int], pG.ret q s (.int _)⟩
      | bl i => exact .inr ⟨i, by rw [rv.bl], pG.ret q s (.int _)⟩
      | _ => exact q.elim
    | [], _, q => exact q.elim
    | d :: e :: l, _, q => cases d <;> first | exact q.elim | (cases e <;> exact q.elim)
  | all =>
    match ds, r, q with
    | [d], r, q =>
      obtain ⟨v, rfl, rv⟩ := one_of r
      cases d with
      | lst l =>
        obtain ⟨a, vs, rfl, ha, ra⟩ := rv.seqL
        simp only [biD] at q
        cases e : blsOf l with
        | none => rw [e] at q; exact q.elim
        | some xs =>
          rw [e] at q
          obtain rfl := rep_bls ra e
          exact ⟨a, xs, rfl, ha, pG.ret q s (.bl _)⟩
      | _ => exact q.elim
    | [], _, q => exact q.elim
    | d :: e :: l, _, q => cases d <;> first | exact q.elim | (cases e <;> exact q.elim)
  | any =>
    match ds, r, q with
    | [d], r, q =>
      obtain ⟨v, rfl, rv⟩ := one_of r
      cases d with
      | lst l =>
        obtain ⟨a, vs, rfl, ha, ra⟩ := rv.seqL
        simp only [biD] at q
        cases e : blsOf l with
        | none => rw [e] at q; exact q.elim
        | some xs =>
          rw [e] at q
          obtain rfl := rep_bls ra e
          exact ⟨a, xs, rfl, ha, pG.ret q s (.bl _)⟩
      | _ => exact q.elim
    | [], _, q => exact q.elim
    | d :: e :: l, _, q => cases d <;> first | exact q.elim | (cases e <;> exact q.elim)
  | repr =>
    have core : ∀ (v : V) (d : D), vs = [v] → RepB K cl ω H v d → (∃ a, v = .ref a) → pG K cl own (RepF K cl b) ω H σ δ Q ((if showOk d = true then (pure (.str (D.text d)) : M D) else M.no) S) → rBi K .repr vs H Q := fun v d ev rv ha q => by
      by_cases hz : showOk d = true
      · rw [if_pos hz] at q
        have z : D.plain d = true ∧ D.deep d ≤ 60 ∧ d.py.showable = true ∧ d.text.length ≤ line := by simpa [showOk] using hz
        obtain ⟨a, rfl⟩ := ha
        exact ⟨a, d.py, ev, rv.dp z.1, z.2.2.1, py_nodict d, by rw [py_depth d z.1]; omega, by rw [← line_eq]; exact z.2.2.2, pG.ret q s (.str _)⟩
      · rw [if_neg hz] at q
        exact q.elim
    match ds, r, q with
    | [d], r, q =>
      obtain ⟨v, rfl, rv⟩ := one_of r
      cases d with
      | lst l => exact core v _ rfl rv (let ⟨a, _, e, _⟩ := rv.seqL; ⟨a, e⟩) q
      | tup l => exact core v _ rfl rv (let ⟨a, _, e, _⟩ := rv.tup.seqT; ⟨a, e⟩) q
      | _ => exact q.elim
    | [], _, q => exact q.elim
    | d :: e :: l, _, q => cases d <;> first | exact q.elim | (cases e <;> exact q.elim)
  | sortedSet => exact q.elim
  | bool => exact q.elim
  | str => exact q.elim
end
end RF
end
section
set_option linter.all false
set_option maxRecDepth 100000
set_option maxHeartbeats 4000000
set_option autoImplicit false
/-! RfEnumT: enumerate of a tuple. -/
namespace RF
open PySem PySem.Spec L2
open PyProof.Rows hiding St
open PySem.Sem (wp)
open PySem.AutoSeq1 (wpAny_loadPart')
section
variable {pg : Program} {wd : World} {AA : Around} {EE : Value → Shared → Prop} {ss : Shared}
theorem drawsTup (hh : AA.handled = none) (ti q : Addr) (hne : q ≠ ti) (vals : Array Value) :
    Draws pg wd AA ti [ti, q] vals.size (fun n v => vals[n]? = some v) (fun n hp => hp.IsTupleIter ti q n ∧ hp.IsTuple q vals) where
  live := fun _ _ z => let ⟨o, ho, _⟩ := z.1; ⟨o, ho⟩
  frame := fun _ _ _ z hk => ⟨z.1.at fun o e => hk ti (by simp) o e, z.2.at fun o e => hk q (by simp) o e⟩
  item := fun n s1 Q1 E1 hn z hQ => by
    refine RZ.nextOf_tuple_item z.1 z.2 (x := vals[n]) (by simp [hn]) fun h1 z1 y1 => ?_
    exact hQ _ h1 s1.toks (by simp [hn]) ⟨z1, z.2.extBut y1.extBut hne⟩ y1
  done := fun s1 Q1 E1 z hE => RZ.nextOf_tuple_end hh z.1 z.2 (by simp) hE
theorem meets_enumT (q : Addr) (vals : Array Value) (m : Nat) (dd : Option Addr) (sv : Array (Option Value)) :
    Meets (Builtin.«enumerate.__new__» ⟨[.type "enumerate", .ref q], []⟩) (fun _ R1 s1 => s1.heap.get? q = some { cls := .type "tuple", dict := dd, data := .seq vals m, slots := sv } ∧
      R1 (.ok (.ret (.ref (s1.heap.push { cls := .type "tuple_iterator", data := .fields #[.ref q, .int 0 0] }).objs.size)))
        { s1 with heap := (s1.heap.push { cls := .type "tuple_iterator", data := .fields #[.ref q, .int 0 0] }).push { cls := .type "enumerate", data := .fields #[.none, .bool false, .ref s1.heap.objs.size, rawInt 0, .none, .none] } }) :=
  .of_wp fun p1 w1 A1 R1 s1 z => by
    obtain ⟨hp1, gg, dd1, tk1, os1⟩ := s1; obtain ⟨z1, z⟩ := z
    have z2 := sub_enumerate
    have z3 : Heap.IsTuple (Shared.heap ⟨hp1, gg, dd1, tk1, os1⟩) q vals := ⟨_, z1, rfl, m, rfl⟩
    wp_walk using wpAny_loadPart' z1
    refine wpAny_stack_any fun y => wpAny_pure ?_
    split
    · rename_i cc _ _ _ _ _
      cases (cc == Value.type "enumerate")
      · wp_walk using wpAny_loadPart' z1, wpAny_pyIter_tuple z3
        exact ⟨_, rfl, z⟩
      · wp_walk using wpAny_loadPart' z1, wpAny_pyIter_tuple z3
        exact ⟨_, rfl, z⟩
    · wp_walk using wpAny_loadPart' z1, wpAny_pyIter_tuple z3
      exact ⟨_, rfl, z⟩
theorem call_enumT {q : Addr} {vals : Array Value} {Q1 : Value → Shared → Prop} (hL : ss.heap.IsTuple q vals)
    (z : ∀ h1, IsEnum h1 (ss.heap.objs.size + 1) ss.heap.objs.size 0 .none → h1.IsTupleIter ss.heap.objs.size q 0 → h1.objs.size = ss.heap.objs.size + 2 →
      (∀ b o, ss.heap.get? b = some o → h1.get? b = some o) → Q1 (.ref (ss.heap.objs.size + 1)) { ss with heap := h1 }) :
    wpAny (model pg wd) AA (call (.type "enumerate") [.ref q]) Q1 EE ss := by
  obtain ⟨⟨cc, dd, dt, sv⟩, hl1, hc1, m, hd1⟩ := hL
  replace hc1 : cc = .type "tuple" := hc1
  replace hd1 : dt = .seq vals m := hd1
  subst hc1 hd1
  refine callType_new F.called_enumerate (by decide) (F.typeCall_enumerate_1 _) (F.newCall_enumerate_1 _) (fun obj1 => F.args_object_init_2 obj1 _) F.entry_enumerate_new (meets_enumT q vals m dd sv) ⟨hl1, ?_⟩
  have hz : (ss.heap.push { cls := .type "tuple_iterator", data := .fields #[.ref q, .int 0 0] }).objs.size = ss.heap.objs.size + 1 := Heap.size_push ..
  show _ ∧ _
  rw [hz]
  have he : IsEnum ((ss.heap.push { cls := .type "tuple_iterator", data := .fields #[.ref q, .int 0 0] }).push { cls := .type "enumerate", data := .fields #[.none, .bool false, .ref ss.heap.objs.size, rawInt 0, .none, .none] }) (ss.heap.objs.size + 1) ss.heap.objs.size 0 .none := by
    have y := Heap.get?_push_size (ss.heap.push { cls := .type "tuple_iterator", data := .fields #[.ref q, .int 0 0] }) (o := { cls := .type "enumerate", data := .fields #[.none, .bool false, .ref ss.heap.objs.size, rawInt 0, .none, .none] }) rfl
    rw [hz] at y; exact y
  refine ⟨⟨_, he, rfl⟩, z _ he ⟨_, Heap.get?_push_of_some _ (Heap.get?_push_size _ rfl), rfl, rfl⟩ (by rw [Heap.size_push, hz]) fun b o y => Heap.get?_push_of_some _ (Heap.get?_push_of_some _ y)⟩
end
/-- a tuple's items, each in a new pair with its place -/
def ItnT (K : PySem.W.Frag) (q : Addr) : It :=
  ⟨fun n H => ∃ (xs : List V) (x : V), SqT K H q xs ∧ xs[n]? = some x, fun n H v H1 => ∃ T o x, v = .ref T ∧ H T = none ∧ o.dict = none ∧ H1 = L2.upd H T (.frz o (.tup [.int (n : Nat), x])) ∧ ∀ xs, SqT K H q xs → xs[n]? = some x, fun n H => ∃ xs : List V, SqT K H q xs ∧ xs.length ≤ n⟩
theorem walk_enumT {K : PySem.W.Frag} {q : Addr} {xs : List V} : Walk (ItnT K q) xs.length (fun H => SqT K H q xs) (YPr (fun n => some (.int (n : Nat))) (fun n => xs[n]?)) := by
  refine ⟨fun n _ hn y => ⟨xs, xs[n], y, by simp [hn]⟩, fun _ y => ⟨xs, y, Nat.le_refl _⟩, fun n H v H1 _ y z => ?_⟩
  obtain ⟨T, o, x, h1, h2, h5, h3, h4⟩ := z
  exact ⟨T, o, .int (n : Nat), x, h1, h2, h5, h3, rfl, h4 xs y⟩
theorem turn_enumT {P1 : Program} {w1 : World} {K : PySem.W.Frag} {els : List Expr} {k1 : Nat} {tp : Pos} (q e it : Addr) :
    Turn P1 w1 K (.Tuple els k1 tp) (ItnT K q) [e, it] e (fun n hp => (∃ old, IsEnum hp e it ((n : Nat) : Int) old) ∧ hp.IsTupleIter it q n ∧ e ≠ it) where
  mem := by simp
  obj := fun n hp y b hb => by
    obtain ⟨⟨old, he⟩, ⟨o, ho, hc, hd⟩, _⟩ := y
    have hbb : b = e ∨ b = it := by simpa using hb
    rcases hbb with z | z
    · rw [z]; exact ⟨_, he, fun v z => nomatch z⟩
    · rw [z]; exact ⟨o, ho, fun v z => by rw [hd] at z; cases z⟩
  keep := fun n hp h1 y k => let ⟨⟨old, he⟩, hi, hne⟩ := y; ⟨⟨old, k e (by simp) _ he⟩, hi.at fun o z => k it (by simp) o z, hne⟩
  item := by
    intro X hP hw hK hc n pins s σ H E I hf y hg
    subst hP hw hK
    obtain ⟨⟨old, he⟩, hit, hne⟩ := y
    obtain ⟨xs, x, hq, hx⟩ := hg
    obtain ⟨its, rv, p, hz⟩ := I.tuple hq
    obtain ⟨u, hu, ru⟩ := rv.get hx
    have h1 : e < s.heap.objs.size := Heap.lt_size he
    have h2 : it < s.heap.objs.size := by obtain ⟨_, z, _⟩ := hit; exact Heap.lt_size z
    have hta : s.heap.IsTuple q its.toArray := p
    have hqi : q ≠ it := fun z => by
      obtain ⟨o1, g1, c1, _⟩ := hta
      obtain ⟨o2, g2, c2, _⟩ := hit
      rw [z, g2] at g1
      cases g1
      rw [c2] at c1
      exact absurd c1 (by decide)
    have hqe : e ∉ [it, q] := fun z => by
      have hz' : e = it ∨ e = q := by simpa using z
      rcases hz' with z | z
      · exact hne z
      · obtain ⟨o1, g1, c1, _⟩ := hta
        rw [← z, he] at g1
        cases g1
        have c2 : Value.type "enumerate" = .type "tuple" := c1
        exact absurd c2 (by decide)
    have hin : X.A.in1.handled = none := I.ok.hd hc
    refine wpAny_pyNext_enum_itemD (drawsTup (AA := X.A.in1) hin it q hqi its.toArray) he ⟨hit, hta⟩ (by have y := (List.getElem?_eq_some_iff.mp hx).1; rw [rv.length] at y; simpa using y) hne hqe fun v hp1 tk hv ho hst hT hsz hk => ?_
    have evu : v = u := by
      have hv' : its.toArray[n]? = some v := hv
      have hu' : its.toArray[n]? = some u := by simpa using hu
      rw [hu'] at hv'
      cases hv'
      rfl
    subst evu
    refine ⟨_, rfl, wpAny_letOwnedTupleGo_enum (s := { s with heap := hp1, toks := tk + 1 }) ho fun hp2 he2 sb => ?_⟩
    have hT2 : hp2.get? s.heap.objs.size = some { cls := .type "tuple", data := .seq #[.int n tk, v] } := (sb.2 _ (Nat.ne_of_gt h1)).trans hT
    have new : ObjOk X.prog X.w (L2.upd H s.heap.objs.size (.frz (tupO [.int n tk, v]) (.tup [.int (n : Nat), x]))) hp2 s.heap.objs.size (.frz (tupO [.int n tk, v]) (.tup [.int (n : Nat), x])) :=
      ⟨hT2, by show 2 ≤ sizeLine; decide, [.int n tk, v], .cons ⟨_, rfl⟩ (.cons ru .nil), ⟨_, hT2, rfl, _, rfl⟩⟩
    have I1 : Inv X pins σ (L2.upd H s.heap.objs.size (.frz (tupO [.int n tk, v]) (.tup [.int (n : Nat), x]))) { s with heap := hp2, toks := tk + 1 } :=
      I.turnedNew (ch := [e, it]) (fun b ob hb z => (sb.2 b (fun z => hb (by simp [z]))).trans (hk b ob (fun z => hb (by simp [z])) (fun z => hb (by simp [z])) z)) hf (Nat.le_refl _) new
    refine ⟨.ref s.heap.objs.size, _, I1, rfl, ⟨_, tupO [.int n tk, v], x, rfl, I.hok.fresh (Nat.le_refl _), rfl, rfl, fun ys hy => by rw [I.tuple_inj hy hq]; exact hx⟩, ⟨⟨v, ?_⟩, hst.1.at fun o z => (sb.2 it (Ne.symm hne)).trans z, hne⟩, fun b hb => ?_⟩
    · have e1 : ((n + 1 : Nat) : Int) = (n : Int) + 1 := by omega
      rw [e1]; exact he2
    · have hb' : b < s.heap.objs.size := by
        have hbb : b = e ∨ b = it := by simpa using hb
        rcases hbb with z | z
        · rw [z]; exact h1
        · rw [z]; exact h2
      rw [upd_ne (Nat.ne_of_lt hb')]
      exact (hf b hb).1
  done := by
    intro X hP hw hK hc n pins s σ H E I hf y hg
    subst hP hw hK
    obtain ⟨⟨old, he⟩, hit, hne⟩ := y
    obtain ⟨xs, hq, hx⟩ := hg
    obtain ⟨its, rv, p, hz⟩ := I.tuple hq
    obtain ⟨f0, f1, f2, f3, f4, f5⟩ := hf it (by simp)
    have hta : s.heap.IsTuple q its.toArray := p
    have hT : s.TypeIs (.ref e) "enumerate" := ⟨_, he, rfl⟩
    unfold pyNext
    refine wpAny_bind (wpAny_attempt (wpAny_callSpecial?_slot (name := Str.ofString "__next__") hT F.slot_enumerate_next (wpAny_call_entry F.slot_enumerate_next hT F.entry_enumerate_next ?_ (F.args_enumerate_next_1 _))))
    show wpAny _ _ (field (.ref e) 2 >>= _) _ _ _
    refine wpAny_bind (wpAny_field he rfl (x := .ref it) rfl ?_)
    have hlen := rv.length
    refine wpAny_bind (RZ.nextOf_tuple_end (I.ok.hd hc) hit hta (by simp; omega) fun h1 x1 he1 hx1 => ?_)
    obtain ⟨o, ho, hc1⟩ := hx1
    refine wpAny_bind (wpAny_isInstance (T := "StopIteration") (b := true) ⟨o, ho, hc1⟩ isSubtype_stop ?_)
    exact wpAny_pure ⟨rfl, I.turned (t' := s.toks) (fun b o hb z => he1 b o hb z) f0 f1 f3 f4 f5⟩
  self := fun A1 n s Q1 E1 y z => let ⟨⟨_, he⟩, _⟩ := y; wpAny_pyIter_enum he z
def iEnumT (K : PySem.W.Frag) (ta : TA) : TI := fun σ H R => ta σ H fun vs H1 => ∃ q xs, vs = [.ref q] ∧ SqT K H1 q xs ∧ R (ItnT K q) H1
theorem pi_enumT {X : Cx} {e : Expr} {ta : TA} {p1 p2 tp : Pos} {els : List Expr} {k1 : Nat} (hg : Gl X "enumerate") (hm : X.mg "enumerate" = none) (ha : PA X [e] ta) (hs : starEach [e] X.env = [(false, eval e X.env)]) :
    PI X (.Tuple els k1 tp) (.Call (.Name "enumerate" p1) [e] [] p2) (iEnumT X.K ta) := by
  refine ⟨fun pins s σ H R I h => ?_⟩
  refine Call_ (ld_blt I hg hm boot_enumerate (PyProof.Rows.callWith_type1 (thn (ha.run p2 pins s σ H _ I h) fun us s1 ⟨vs, H1, I1, r1, q1⟩ => ?_) hs rfl))
  obtain ⟨q, xs, ex, hq, z⟩ := q1
  subst ex
  cases r1 with
  | cons r rr =>
    cases rr
    cases r
    obtain ⟨its, rv, y, hz⟩ := I1.tuple hq
    have hta : s1.heap.IsTuple q its.toArray := y
    refine call_enumT hta fun h1 he hit hsz hk => wpAny_pyIter_enum he ?_
    have I2 : Inv X pins σ H1 { s1 with heap := h1 } := I1.kept (t' := s1.toks) hk
    refine ⟨s1.heap.objs.size + 1, [s1.heap.objs.size + 1, s1.heap.objs.size], _, _, H1, rfl, I2, turn_enumT q (s1.heap.objs.size + 1) s1.heap.objs.size, ⟨⟨.none, he⟩, hit, Nat.succ_ne_self _⟩, fun b hb => ?_, z⟩
    have hbb : b = s1.heap.objs.size + 1 ∨ b = s1.heap.objs.size := by simpa using hb
    have hle : s1.heap.objs.size ≤ b := by
      rcases hbb with z | z
      · rw [z]; exact Nat.le_add_right _ _
      · rw [z]; exact Nat.le_refl _
    exact I1.fpOk hle (I1.hok.fresh hle)
/-- a list's items, each in a new pair with its place -/
def ItnL (K : PySem.W.Frag) (q : Addr) : It :=
  ⟨fun n H => ∃ (xs : List V) (x : V), SqL K H q xs ∧ xs[n]? = some x, fun n H v H1 => ∃ T o x, v = .ref T ∧ H T = none ∧ o.dict = none ∧ H1 = L2.upd H T (.frz o (.tup [.int (n : Nat), x])) ∧ ∀ xs, SqL K H q xs → xs[n]? = some x, fun n H => ∃ xs : List V, SqL K H q xs ∧ xs.length ≤ n⟩
theorem walk_enumL {K : PySem.W.Frag} {q : Addr} {xs : List V} : Walk (ItnL K q) xs.length (fun H => SqL K H q xs) (YPr (fun n => some (.int (n : Nat))) (fun n => xs[n]?)) := by
  refine ⟨fun n _ hn y => ⟨xs, xs[n], y, by simp [hn]⟩, fun _ y => ⟨xs, y, Nat.le_refl _⟩, fun n H v H1 _ y z => ?_⟩
  obtain ⟨T, o, x, h1, h2, h5, h3, h4⟩ := z
  exact ⟨T, o, .int (n : Nat), x, h1, h2, h5, h3, rfl, h4 xs y⟩
theorem turn_enumL {P1 : Program} {w1 : World} {K : PySem.W.Frag} {els : List Expr} {k1 : Nat} {tp : Pos} (q e it : Addr) :
    Turn P1 w1 K (.Tuple els k1 tp) (ItnL K q) [e, it] e (fun n hp => (∃ old, IsEnum hp e it ((n : Nat) : Int) old) ∧ hp.IsListIter it q n ∧ e ≠ it) where
  mem := by simp
  obj := fun n hp y b hb => by
    obtain ⟨⟨old, he⟩, ⟨o, ho, hc, hd⟩, _⟩ := y
    have hbb : b = e ∨ b = it := by simpa using hb
    rcases hbb with z | z
    · rw [z]; exact ⟨_, he, fun v z => nomatch z⟩
    · rw [z]; exact ⟨o, ho, fun v z => by rw [hd] at z; cases z⟩
  keep := fun n hp h1 y k => let ⟨⟨old, he⟩, hi, hne⟩ := y; ⟨⟨old, k e (by simp) _ he⟩, hi.at fun o z => k it (by simp) o z, hne⟩
  item := by
    intro X hP hw hK hc n pins s σ H E I hf y hg
    subst hP hw hK
    obtain ⟨⟨old, he⟩, hit, hne⟩ := y
    obtain ⟨xs, x, hq, hx⟩ := hg
    obtain ⟨its, rv, p, hz⟩ := I.list hq
    obtain ⟨u, hu, ru⟩ := rv.get hx
    have h1 : e < s.heap.objs.size := Heap.lt_size he
    have h2 : it < s.heap.objs.size := by obtain ⟨_, z, _⟩ := hit; exact Heap.lt_size z
    have hta : s.heap.IsList q its.toArray := p.isList
    have hqi : q ≠ it := fun z => by
      obtain ⟨o1, g1, c1, _⟩ := hta
      obtain ⟨o2, g2, c2, _⟩ := hit
      rw [z, g2] at g1
      cases g1
      rw [c2] at c1
      exact absurd c1 (by decide)
    have hqe : e ∉ [it, q] := fun z => by
      have hz' : e = it ∨ e = q := by simpa using z
      rcases hz' with z | z
      · exact hne z
      · obtain ⟨o1, g1, c1, _⟩ := hta
        rw [← z, he] at g1
        cases g1
        have c2 : Value.type "enumerate" = .type "list" := c1
        exact absurd c2 (by decide)
    have hin : X.A.in1.handled = none := I.ok.hd hc
    refine wpAny_pyNext_enum_itemD (Draws.list (A := X.A.in1) hin it q hqi its.toArray) he ⟨hit, hta⟩ (by have y := (List.getElem?_eq_some_iff.mp hx).1; rw [rv.length] at y; simpa using y) hne hqe fun v hp1 tk hv ho hst hT hsz hk => ?_
    have evu : v = u := by
      have hv' : its.toArray[n]? = some v := hv
      have hu' : its.toArray[n]? = some u := by simpa using hu
      rw [hu'] at hv'
      cases hv'
      rfl
    subst evu
    refine ⟨_, rfl, wpAny_letOwnedTupleGo_enum (s := { s with heap := hp1, toks := tk + 1 }) ho fun hp2 he2 sb => ?_⟩
    have hT2 : hp2.get? s.heap.objs.size = some { cls := .type "tuple", data := .seq #[.int n tk, v] } := (sb.2 _ (Nat.ne_of_gt h1)).trans hT
    have new : ObjOk X.prog X.w (L2.upd H s.heap.objs.size (.frz (tupO [.int n tk, v]) (.tup [.int (n : Nat), x]))) hp2 s.heap.objs.size (.frz (tupO [.int n tk, v]) (.tup [.int (n : Nat), x])) :=
      ⟨hT2, by show 2 ≤ sizeLine; decide, [.int n tk, v], .cons ⟨_, rfl⟩ (.cons ru .nil), ⟨_, hT2, rfl, _, rfl⟩⟩
    have I1 : Inv X pins σ (L2.upd H s.heap.objs.size (.frz (tupO [.int n tk, v]) (.tup [.int (n : Nat), x]))) { s with heap := hp2, toks := tk + 1 } :=
      I.turnedNew (ch := [e, it]) (fun b ob hb z => (sb.2 b (fun z => hb (by simp [z]))).trans (hk b ob (fun z => hb (by simp [z])) (fun z => hb (by simp [z])) z)) hf (Nat.le_refl _) new
    refine ⟨.ref s.heap.objs.size, _, I1, rfl, ⟨_, tupO [.int n tk, v], x, rfl, I.hok.fresh (Nat.le_refl _), rfl, rfl, fun ys hy => by rw [I.list_inj hy hq]; exact hx⟩, ⟨⟨v, ?_⟩, hst.1.at fun o z => (sb.2 it (Ne.symm hne)).trans z, hne⟩, fun b hb => ?_⟩
    · have e1 : ((n + 1 : Nat) : Int) = (n : Int) + 1 := by omega
      rw [e1]; exact he2
    · have hb' : b < s.heap.objs.size := by
        have hbb : b = e ∨ b = it := by simpa using hb
        rcases hbb with z | z
        · rw [z]; exact h1
        · rw [z]; exact h2
      rw [upd_ne (Nat.ne_of_lt hb')]
      exact (hf b hb).1
  done := by
    intro X hP hw hK hc n pins s σ H E I hf y hg
    subst hP hw hK
    obtain ⟨⟨old, he⟩, hit, hne⟩ := y
    obtain ⟨xs, hq, hx⟩ := hg
    obtain ⟨its, rv, p, hz⟩ := I.list hq
    obtain ⟨f0, f1, f2, f3, f4, f5⟩ := hf it (by simp)
    have hta : s.heap.IsList q its.toArray := p.isList
    have hT : s.TypeIs (.ref e) "enumerate" := ⟨_, he, rfl⟩
    unfold pyNext
    refine wpAny_bind (wpAny_attempt (wpAny_callSpecial?_slot (name := Str.ofString "__next__") hT F.slot_enumerate_next (wpAny_call_entry F.slot_enumerate_next hT F.entry_enumerate_next ?_ (F.args_enumerate_next_1 _))))
    show wpAny _ _ (field (.ref e) 2 >>= _) _ _ _
    refine wpAny_bind (wpAny_field he rfl (x := .ref it) rfl ?_)
    have hlen := rv.length
    refine wpAny_bind (wpAny_nextOf_list_end (I.ok.hd hc) hit hta (by simp; omega) fun h1 x1 he1 hx1 => ?_)
    obtain ⟨o, ho, hc1⟩ := hx1
    refine wpAny_bind (wpAny_isInstance (T := "StopIteration") (b := true) ⟨o, ho, hc1⟩ isSubtype_stop ?_)
    exact wpAny_pure ⟨rfl, I.turned (t' := s.toks) (fun b o hb z => he1 b o hb z) f0 f1 f3 f4 f5⟩
  self := fun A1 n s Q1 E1 y z => let ⟨⟨_, he⟩, _⟩ := y; wpAny_pyIter_enum he z
def iEnumL (K : PySem.W.Frag) (ta : TA) : TI := fun σ H R => ta σ H fun vs H1 => ∃ q xs, vs = [.ref q] ∧ SqL K H1 q xs ∧ R (ItnL K q) H1
theorem pi_enumL {X : Cx} {e : Expr} {ta : TA} {p1 p2 tp : Pos} {els : List Expr} {k1 : Nat} (hg : Gl X "enumerate") (hm : X.mg "enumerate" = none) (ha : PA X [e] ta) (hs : starEach [e] X.env = [(false, eval e X.env)]) :
    PI X (.Tuple els k1 tp) (.Call (.Name "enumerate" p1) [e] [] p2) (iEnumL X.K ta) := by
  refine ⟨fun pins s σ H R I h => ?_⟩
  refine Call_ (ld_blt I hg hm boot_enumerate (PyProof.Rows.callWith_type1 (thn (ha.run p2 pins s σ H _ I h) fun us s1 ⟨vs, H1, I1, r1, q1⟩ => ?_) hs rfl))
  obtain ⟨q, xs, ex, hq, z⟩ := q1
  subst ex
  cases r1 with
  | cons r rr =>
    cases rr
    cases r
    obtain ⟨its, rv, y, hz⟩ := I1.list hq
    have hta : s1.heap.IsList q its.toArray := y.isList
    refine call_enumerate_list hta fun h1 he hit hsz hk => wpAny_pyIter_enum he ?_
    have I2 : Inv X pins σ H1 { s1 with heap := h1 } := I1.kept (t' := s1.toks) hk
    refine ⟨s1.heap.objs.size + 1, [s1.heap.objs.size + 1, s1.heap.objs.size], _, _, H1, rfl, I2, turn_enumL q (s1.heap.objs.size + 1) s1.heap.objs.size, ⟨⟨.none, he⟩, hit, Nat.succ_ne_self _⟩, fun b hb => ?_, z⟩
    have hbb : b = s1.heap.objs.size + 1 ∨ b = s1.heap.objs.size := by simpa using hb
    have hle : s1.heap.objs.size ≤ b := by
      rcases hbb with z | z
      · rw [z]; exact Nat.le_add_right _ _
      · rw [z]; exact Nat.le_refl _
    exact I1.fpOk hle (I1.hok.fresh hle)
end RF
end
section
set_option linter.all false
set_option maxRecDepth 100000
set_option maxHeartbeats 4000000
set_option autoImplicit false
/-! RfSnd9: calls of builtins, slices; what is walked; comprehensions. -/
namespace RF
open PySem PySem.Spec L2
open PyProof.Rows hiding St
section
variable {K : PySem.W.Frag} {cl : Nat → Addr} {own : List Nat} {X : Cx} {a c e : Expr} {es : List Expr} {p pos p2 : Pos} {f g : En → M D} {gs : En → M (List D)} {b : Bool}
theorem re_bi {x : Str} {B : Bi} {k : Nat} (hr : Room k X.A) (hcalm : X.calm = true) (gd : X.A.guards = some []) (hx : x = biNm B) (hg : Gl X x) (hm : X.mg x = none) (ha : PA X (e :: es) (tA X.K cl own true gs)) (hs : okShape e = true) (hs2 : es.all okShape = true) : PE X (.Call (.Name x p) (e :: es) [] pos) (tE X.K cl own b fun δ => do biD B (← gs δ)) := by
  refine (pe_bi B hx (op_bi hcalm (hu_cmp hr) gd B) hg hm ha hs hs2).imp fun σ H Q ⟨ω, δ, S, s, q⟩ => ⟨ω, δ, S, s, ?_⟩
  dsimp only at q
  rw [M.bind_run] at q
  cases e : gs δ S with
  | exc _ _ => rw [e] at q; exact q.elim
  | no => rw [e] at q; exact q.elim
  | ok ds S1 =>
    rw [e] at q
    intro ω1 vs H1 g1 s1 r1
    exact bi_ok s1 r1 (pG.go q g1)
/-! ### slices -/
theorem ro_none : PO X none (tO K cl own fun _ => pure none) := po_none.imp fun σ H Q ⟨ω, δ, S, s, q⟩ => q ω none H (Go.refl _ _) s rfl
theorem ro_some (h : PE X e (tE K cl own true f)) : PO X (some e) (tO K cl own fun δ => do
    match ← f δ with
    | .int i => pure (some i)
    | _ => M.no) := by
  refine (po_some h).imp fun σ H Q ⟨ω, δ, S, s, q⟩ => ⟨ω, δ, S, s, pG_bind q fun ω1 v H1 x S1 g1 s1 r1 q1 => ?_⟩
  cases x with
  | int i => exact ⟨i, RepB.int r1, q1 ω1 _ H1 (Go.refl _ _) s1 rfl⟩
  | _ => exact q1.elim
theorem cut_rep {ω : Wd} {H : Hp} {vs : List V} {ds : List D} (r : RepL K cl ω H vs ds) (lo hi : Option Int) : RepL K cl ω H (cutV vs lo hi) (cutL ds lo hi) := by
  have e : ∀ (n d : Nat) (o : Option Int), HT.sIx n d o = cutIx n d o := fun n d o => by cases o <;> rfl
  unfold cutV cutL
  rw [e, e, r.1]
  exact (r.drop _).take _
theorem cut_whole {ds : List D} {lo hi : Option Int} (h1 : cutIx ds.length 0 lo = 0) (h2 : cutIx ds.length ds.length hi = ds.length) : cutL ds lo hi = ds := by
  unfold cutL
  rw [h1, h2]
  simp
theorem re_cut {lo hi : Option Expr} {tl th : En → M (Option Int)} (he : PE X e (tE X.K cl own true f)) (hl : PO X lo (tO X.K cl own tl)) (hh : PO X hi (tO X.K cl own th)) : PE X (.Subscript e (.Slice lo hi none p2) pos) (tE X.K cl own b fun δ => do
    let x ← f δ
    let l ← tl δ
    let h ← th δ
    M.ofO (cutD x l h)) := by
  refine (pe_slice (sl_list.or (sl_tupF.or sl_str)) he hl hh).imp fun σ H Q ⟨ω, δ, S, s, q⟩ => ⟨ω, δ, S, s, pG_bind q fun ω1 v H1 x S1 g1 s1 r1 q1 => ?_⟩
  refine ⟨ω1, δ, S1, s1, pG_bind q1 fun ω2 l H2 l' S2 g2 s2 r2 q2 => ?_⟩
  refine ⟨ω2, δ, S2, s2, pG_bind q2 fun ω3 h H3 h' S3 g3 s3 r3 q3 => ?_⟩
  subst r2
  subst r3
  have r : RepB X.K cl ω3 H3 v x := RepB.go (RepB.go r1 g2 s1.wok) g3 s2.wok
  cases x with
  | lst ds =>
    obtain ⟨q, vs, rfl, hq, rq⟩ := r.seqL
    exact .inl ⟨q, vs, rfl, hq, fun p hp => pG.new q3 s3 hp (Rep.newL (cut_rep rq _ _) hp s3.wok)⟩
  | frz ds =>
    obtain ⟨q, vs, rfl, hq, rq⟩ := r.seqF
    exact .inl ⟨q, vs, rfl, hq, fun p hp => pG.new q3 s3 hp (Rep.newL (cut_rep rq _ _) hp s3.wok)⟩
  | tup ds =>
    have rt := r.tup
    obtain ⟨q, vs, rfl, hq, rq⟩ := rt.seqT
    refine .inr (.inl ⟨q, vs, rfl, hq, fun z => ?_, fun _ p ob hp hd => pG.new q3 s3 hp (Rep.newT (cut_rep rq _ _) hp hd s3.wok)⟩)
    have e : ∀ (n d : Nat) (o : Option Int), HT.sIx n d o = cutIx n d o := fun n d o => by cases o <;> rfl
    rw [e, e, rq.1] at z
    have q4 : pG X.K cl own (RepF X.K cl b) ω3 H3 σ δ Q (.ok (.tup ds) S3) := by
      have := q3
      simp only [cutD, cut_whole z.1 z.2] at this
      exact this
    exact pG.ret q4 s3 rt
  | str z =>
    by_cases hz : z.length ≤ line
    · simp only [cutD, if_pos hz] at q3
      have e : ∀ (n d : Nat) (o : Option Int), HT.sIx n d o = cutIx n d o := fun n d o => by cases o <;> rfl
      have e2 : cutS z l h = ⟨(cutL z.cps.toList l h).toArray⟩ := by
        unfold cutS cutL
        rw [e, e]
        rfl
      refine .inr (.inr ⟨z, r.str, by rw [← line_eq]; exact hz, ?_⟩)
      rw [e2]
      exact pG.ret q3 s3 (.str _)
    · simp only [cutD, if_neg hz] at q3
      exact q3.elim
  | _ => exact q3.elim
end
/-! ### what is walked -/
/-- turns over items; M: the own slots that a turn may change -/
def Pk (K : PySem.W.Frag) (cl : Nat → Addr) (M : List Nat) (ω : Wd) (H : Hp) (items : List D) (J : It) : Prop :=
  ∃ G Y, Walk J items.length G Y ∧ (∀ ω1 H1, GoS M ω H ω1 H1 → G H1) ∧ ∀ (i : Nat) ω1 H1 x H2, i < items.length → GoS M ω H ω1 H1 → WOk ω1 H1 → Y i H1 x H2 →
    (H2 = H1 ∨ ∃ T o, H1 T = none ∧ H2 = L2.upd H1 T o) ∧ ∃ d, items[i]? = some d ∧ Rep K cl ω1 H2 x d
section
variable {K : PySem.W.Frag} {cl : Nat → Addr} {own : List Nat} {X : Cx} {a c e tg : Expr} {es : List Expr} {p pos p2 : Pos} {f g : En → M D} {gs : En → M (List D)} {b : Bool} {Mu : List Nat}
/-- readings of what is walked -/
def tI (K : PySem.W.Frag) (cl : Nat → Addr) (own : List Nat) (Mu : List Nat) (f : En → M (List D)) : TI := fun σ H R => ∃ ω δ S, SR K cl own ω σ H δ S ∧ (match f δ S with
  | .ok items S' => ∀ ω' H' J, Go ω H ω' H' → SR K cl own ω' σ H' δ S' → Pk K cl Mu ω' H' items J → R J H'
  | _ => False)
theorem Pk.seq {ω : Wd} {H : Hp} {q : Addr} {vs : List V} {ds : List D} {J : It} {G : Hp → Prop} (w : Walk J vs.length G (YAt vs)) (r : RepL K cl ω H vs ds) (hG : ∀ ω1 H1, GoS Mu ω H ω1 H1 → G H1) : Pk K cl Mu ω H ds J := by
  rw [r.1] at w
  refine ⟨G, _, w, hG, fun i ω1 H1 x H2 hi go wok y => ?_⟩
  obtain ⟨rfl, hx⟩ := y
  obtain ⟨d, hd, rd⟩ := r.atV hx
  exact ⟨.inl rfl, d, hd, rd.go go⟩
/-- a list that stays: it is data, or in an own slot that the turns leave alone -/
theorem stays {ω : Wd} {H : Hp} {σ : L2.St} {δ : En} {S : Sto} {v : V} {d : D} (s : SR K cl own ω σ H δ S) (r : RepB K cl ω H v d) (hM : ∀ a i, v = .ref a → ω.ow i = some a → i ∉ Mu) {q : Addr} {o : HO} (e : v = .ref q) (h : H q = some o) (hn : (∃ l, d = .lst l) ∨ ∃ l, d = .dct l) : ∀ ω1 H1, GoS Mu ω H ω1 H1 → H1 q = some o := by
  intro ω1 H1 go
  subst e
  have hq : q ∉ ω.rho := by
    rcases r with r | ⟨a, i, e, hi, _⟩
    · rcases hn with ⟨l, rfl⟩ | ⟨l, rfl⟩
      · cases r with
        | lst _ n _ _ => exact fun z => n (.inl z)
      · cases r with
        | dct _ n _ _ _ => exact fun z => n (.inl z)
    · cases e; exact (s.wok.ow i _ hi).2.1
  exact go.keep q o h hq fun i hi z => hM q i rfl z hi
/-- read, and if it is a list then none that the turns change -/
def RepW (K : PySem.W.Frag) (cl : Nat → Addr) (Mu : List Nat) (ω : Wd) (H : Hp) (v : V) (d : D) : Prop := RepB K cl ω H v d ∧ ∀ l, d = .lst l → ∀ a i, v = .ref a → ω.ow i = some a → i ∉ Mu
theorem ri_seq (he : PE X e (tG X.K cl own (RepW X.K cl Mu) f)) :
    PI X tg e (tI X.K cl own Mu fun δ => do M.ofO (itemsOf .seq [← f δ])) := by
  refine (PI.or (pi_list he) (PI.or (pi_tup he) (pi_str he))).imp fun σ H R ⟨ω, δ, S, s, q⟩ => ?_
  dsimp only at q
  rw [M.bind_run] at q
  have go : ∀ T : V → Hp → Prop, (∀ ω1 v H1 d S1, f δ S = .ok d S1 → Go ω H ω1 H1 → SR X.K cl own ω1 σ H1 δ S1 → RepW X.K cl Mu ω1 H1 v d → T v H1) → tG X.K cl own (RepW X.K cl Mu) f σ H T := fun T hT => by
    refine ⟨ω, δ, S, s, ?_⟩
    cases e : f δ S with
    | ok d S1 => exact fun ω1 v H1 g1 s1 r1 => hT ω1 v H1 d S1 e g1 s1 r1
    | exc _ _ => rw [e] at q; exact q.elim
    | no => rw [e] at q; exact q.elim
  cases e : f δ S with
  | exc _ _ => rw [e] at q; exact q.elim
  | no => rw [e] at q; exact q.elim
  | ok d S1 =>
    rw [e] at q
    cases d with
    | lst l =>
      refine .inl (go _ fun ω1 v H1 d S2 e2 g1 s1 r1 => ?_)
      rw [e] at e2; cases e2
      obtain ⟨r1, hst⟩ := r1
      have hst := hst l rfl
      obtain ⟨q', vs, rfl, hq, rq⟩ := r1.lstH
      refine ⟨q', rfl, ⟨vs, .inl (.inl hq)⟩, q ω1 H1 _ g1 s1 (Pk.seq (q := q') walk_list rq fun ω2 H2 go => .inl (.inl (stays s1 r1 hst rfl hq (.inl ⟨l, rfl⟩) ω2 H2 go)))⟩
    | frz l =>
      refine .inl (go _ fun ω1 v H1 d S2 e2 g1 s1 r1 => ?_)
      rw [e] at e2; cases e2
      rcases r1.1 with r1 | ⟨_, _, _, _, z⟩
      · cases r1 with
        | @frz q' vs _ h hl he' =>
          have rq : RepL X.K cl ω1 H1 vs l := ⟨hl, he'⟩
          rcases h with ⟨o, h, hn⟩ | h
          · exact ⟨q', rfl, ⟨vs, .inl (.inr ⟨o, h⟩)⟩, q ω1 H1 _ g1 s1 (Pk.seq (q := q') walk_list rq fun ω2 H2 go => .inl (.inr ⟨o, go.at h hn⟩))⟩
          · have hk : ∀ H', SqL X.K H' q' vs := fun H' => by
              rcases h with (h | ⟨o, h⟩) | h
              · cases h
              · cases h
              · exact .inr h
            exact ⟨q', rfl, ⟨vs, hk _⟩, q ω1 H1 _ g1 s1 (Pk.seq (q := q') walk_list rq fun ω2 H2 go => hk H2)⟩
      · exact z.elim
    | tup l =>
      refine .inr (.inl (go _ fun ω1 v H1 d S2 e2 g1 s1 r1 => ?_))
      rw [e] at e2; cases e2
      obtain ⟨q', vs, rfl, hq, rq⟩ := r1.1.tup.ptu
      exact ⟨q', rfl, ⟨vs, hq.sqT⟩, q ω1 H1 _ g1 s1 (Pk.seq (q := q') walk_tup rq fun ω2 H2 go => (go.ptu hq).sqT)⟩
    | str z =>
      refine .inr (.inr (go _ fun ω1 v H1 d S2 e2 g1 s1 r1 => ?_))
      rw [e] at e2; cases e2
      refine ⟨z, r1.1.str, q ω1 H1 _ g1 s1 ⟨_, _, by
        have := walk_str (z := z)
        have el : (z.cps.toList.map fun c => D.str (sgn c)).length = z.cps.size := by simp
        rw [el]
        exact this, fun _ _ _ => trivial, fun i ω2 H2 x H3 hi go wok y => ?_⟩⟩
      obtain ⟨rfl, c, hc, rfl⟩ := y
      refine ⟨.inl rfl, .str (sgn c), ?_, .str _⟩
      have hc' : z.cps.toList[i]? = some c := by simpa using hc
      simp [hc']
    | _ => exact q.elim
theorem enumL_get : ∀ (l : List D) (n i : Nat) (d : D), l[i]? = some d → (enumL n l)[i]? = some (.tup [.int (n + i : Nat), d])
  | [], _, _, _, h => by simp at h
  | x :: l, n, 0, d, h => by simp at h; simp [enumL, h]
  | x :: l, n, i + 1, d, h => by
    have := enumL_get l (n + 1) i d (by simpa using h)
    simp only [enumL, List.getElem?_cons_succ, this]
    congr 4
    omega
theorem enumL_len : ∀ (l : List D) (n : Nat), (enumL n l).length = l.length
  | [], _ => rfl
  | x :: l, n => by simp [enumL, enumL_len l (n + 1)]
/-- enumerate of a list -/
theorem Pk.enum {ω : Wd} {H : Hp} {q : Addr} {vs : List V} {ds : List D} (k : WOk ω H) (r : RepL K cl ω H vs ds) (hG : ∀ ω1 H1, GoS Mu ω H ω1 H1 → SqL K H1 q vs) : Pk K cl Mu ω H (enumL 0 ds) (ItnL K q) := by
  refine ⟨_, _, by rw [enumL_len, ← r.1]; exact walk_enumL (q := q) (xs := vs), hG, fun i ω1 H1 x H2 hi go wok y => ?_⟩
  obtain ⟨T, ob, u, w, rfl, hT, hd', rfl, e1, e2⟩ := y
  cases e1
  obtain ⟨d, hd, rd⟩ := r.atV e2
  refine ⟨.inr ⟨T, _, hT, rfl⟩, _, enumL_get ds 0 i d hd, ?_⟩
  rw [Nat.zero_add]
  exact Rep.newT (RepL.cons (.int _) (RepL.cons (rd.go go) RepL.nil)) hT hd' wok
/-- enumerate of a tuple -/
theorem Pk.enumT {ω : Wd} {H : Hp} {q : Addr} {vs : List V} {ds : List D} (k : WOk ω H) (r : RepL K cl ω H vs ds) (hG : ∀ ω1 H1, GoS Mu ω H ω1 H1 → SqT K H1 q vs) : Pk K cl Mu ω H (enumL 0 ds) (ItnT K q) := by
  refine ⟨_, _, by rw [enumL_len, ← r.1]; exact walk_enumT (q := q) (xs := vs), hG, fun i ω1 H1 x H2 hi go wok y => ?_⟩
  obtain ⟨T, ob, u, w, rfl, hT, hd', rfl, e1, e2⟩ := y
  cases e1
  obtain ⟨d, hd, rd⟩ := r.atV e2
  refine ⟨.inr ⟨T, _, hT, rfl⟩, _, enumL_get ds 0 i d hd, ?_⟩
  rw [Nat.zero_add]
  exact Rep.newT (RepL.cons (.int _) (RepL.cons (rd.go go) RepL.nil)) hT hd' wok
theorem ri_enum {x : Str} {elts : List Expr} {kk : Nat} {tpos : Pos} (hx : x = "enumerate") (hg : Gl X x) (hm : X.mg x = none) (he : PE X e (tG X.K cl own (RepW X.K cl Mu) f)) (hs : okShape e = true) : PI X (.Tuple elts kk tpos) (.Call (.Name x p) [e] [] pos) (tI X.K cl own Mu fun δ => do M.ofO (itemsOf .enum [← f δ])) := by
  subst hx
  refine (PI.or (pi_enumL hg hm (pa_cons he pa_nil (shape_star hs)) (shape_star hs)) (pi_enumT hg hm (pa_cons he pa_nil (shape_star hs)) (shape_star hs))).imp fun σ H R ⟨ω, δ, S, s, q⟩ => ?_
  dsimp only at q
  rw [M.bind_run] at q
  cases e : f δ S with
  | exc _ _ => rw [e] at q; exact q.elim
  | no => rw [e] at q; exact q.elim
  | ok d S1 =>
    rw [e] at q
    cases d with
    | lst l =>
      refine .inl ⟨ω, δ, S, s, ?_⟩
      dsimp only
      rw [e]
      intro ω1 v H1 g1 s1 r1
      obtain ⟨r1, hst⟩ := r1
      have hst := hst l rfl
      obtain ⟨q', vs, rfl, hq, rq⟩ := r1.lstH
      refine ⟨q', vs, rfl, .inl (.inl hq), q ω1 H1 _ g1 s1 (Pk.enum s1.wok rq fun ω2 H2 go => .inl (.inl (stays s1 r1 hst rfl hq (.inl ⟨l, rfl⟩) ω2 H2 go)))⟩
    | tup l =>
      refine .inr ⟨ω, δ, S, s, ?_⟩
      dsimp only
      rw [e]
      intro ω1 v H1 g1 s1 r1
      obtain ⟨q', vs, rfl, hq, rq⟩ := r1.1.tup.ptu
      exact ⟨q', vs, rfl, hq.sqT, q ω1 H1 _ g1 s1 (Pk.enumT s1.wok rq fun ω2 H2 go => (go.ptu hq).sqT)⟩
    | _ => exact q.elim
theorem rw_giv (he : PE X e (tE K cl own false f)) : PE X e (tG K cl own (RepW K cl Mu) f) := by
  refine he.imp fun σ H Q ⟨ω, δ, S, s, q⟩ => ⟨ω, δ, S, s, ?_⟩
  cases e : f δ S with
  | exc _ _ => rw [e] at q; exact q.elim
  | no => rw [e] at q; exact q.elim
  | ok d S1 =>
    rw [e] at q
    intro ω1 v H1 g1 s1 r1
    refine q ω1 v H1 g1 s1 ⟨.inl r1, fun l hl a i ea hi => ?_⟩
    subst hl
    subst ea
    cases r1 with
    | lst h n _ _ => exact absurd (.inr (.inl ⟨i, hi⟩)) n
theorem rw_var {i : Nat} {x : Str} (hN : X.N[i]? = some x) (hv : Vis X.env.scope x) (hd : (x == ("__debug__" : Str)) = false) (hcd : (x == ("__classdict__" : Str)) = false) (hi : i ∉ Mu) (ho : i ∈ own) : PE X (.Name x p) (tG K cl own (RepW K cl Mu) fun δ => getV δ i) := by
  refine (pe_var hN hv hd hcd).imp fun σ H Q ⟨ω, δ, S, s, q⟩ => ?_
  unfold getV at q
  dsimp only at q
  cases e : δ[i]? with
  | none => rw [e] at q; exact q.elim
  | some o =>
    cases o with
    | none => rw [e] at q; exact q.elim
    | some d =>
      rw [e] at q
      rcases s.osl i d e ho with ⟨a, h1, h2, h3⟩ | ⟨hm, v, h1, h2⟩
      · refine ⟨_, h1, q ω _ H (Go.refl _ _) s ⟨.inr ⟨a, i, rfl, h2, h3⟩, fun l hl b j eb hj => ?_⟩⟩
        cases eb
        rw [s.wok.inj j i a hj h2]
        exact hi
      · refine ⟨v, h1, q ω _ H (Go.refl _ _) s ⟨.inl h2, fun l hl b j eb hj => ?_⟩⟩
        subst hl
        exact absurd hm (by simp [D.imm])
theorem rangeL_get : ∀ (n : Nat) (lo : Int) (i : Nat), i < n → (rangeL n lo)[i]? = some (.int (lo + i))
  | 0, _, _, h => absurd h (by omega)
  | n + 1, lo, 0, _ => by simp [rangeL]
  | n + 1, lo, i + 1, h => by
    have := rangeL_get n (lo + 1) i (by omega)
    simp only [rangeL, List.getElem?_cons_succ, this]
    congr 2
    omega
theorem rangeL_len : ∀ (n : Nat) (lo : Int), (rangeL n lo).length = n
  | 0, _ => rfl
  | n + 1, lo => by simp [rangeL, rangeL_len n (lo + 1)]
theorem Pk.range {ω : Wd} {H : Hp} (lo : Int) (n : Nat) : Pk K cl Mu ω H (rangeL n lo) (Itr lo n) := by
  refine ⟨_, _, by rw [rangeL_len]; exact walk_range, fun _ _ _ => trivial, fun i ω1 H1 x H2 hi go wok y => ?_⟩
  obtain ⟨rfl, rfl⟩ := y
  rw [rangeL_len] at hi
  exact ⟨.inl rfl, _, rangeL_get n lo i hi, .int _⟩
theorem small_of {i : Int} (h : small i = true) : -(2 ^ 62) ≤ i ∧ i < 2 ^ 62 := by simpa [small] using h
theorem ri_range1 {x : Str} (hx : x = "range") (hg : Gl X x) (hm : X.mg x = none) (ha : PA X [a] (tA X.K cl own true gs)) (hs : okShape a = true) : PI X tg (.Call (.Name x p) [a] [] pos) (tI X.K cl own Mu fun δ => do M.ofO (itemsOf .range1 (← gs δ))) := by
  subst hx
  refine (pi_range1 hg hm ha (shape_star hs)).imp fun σ H R ⟨ω, δ, S, s, q⟩ => ⟨ω, δ, S, s, ?_⟩
  dsimp only at q
  rw [M.bind_run] at q
  cases e : gs δ S with
  | exc _ _ => rw [e] at q; exact q.elim
  | no => rw [e] at q; exact q.elim
  | ok ds S1 =>
    rw [e] at q
    intro ω1 vs H1 g1 s1 r1
    match ds, r1, q with
    | [.int j], r1, q =>
      obtain ⟨v, rfl, rv⟩ := one_of r1
      by_cases hz : small j = true
      · simp only [itemsOf, if_pos hz] at q
        obtain ⟨z1, z2⟩ := small_of hz
        exact ⟨j, by rw [rv.int], z1, z2, q ω1 H1 _ g1 s1 (Pk.range 0 _)⟩
      · simp only [itemsOf, if_neg hz] at q
        exact q.elim
    | [], _, q => exact q.elim
    | [.non], _, q | [.bl _], _, q | [.str _], _, q | [.tup _], _, q | [.lst _], _, q | [.dct _], _, q | [.ins _ _], _, q | [.obj _], _, q | [.frz _], _, q => exact q.elim
    | d :: e :: l, _, q => cases d <;> exact q.elim
theorem ri_range2 {x : Str} (hx : x = "range") (hg : Gl X x) (hm : X.mg x = none) (ha : PA X [a, c] (tA X.K cl own true gs)) (hs : okShape a = true) (hs2 : okShape c = true) : PI X tg (.Call (.Name x p) [a, c] [] pos) (tI X.K cl own Mu fun δ => do M.ofO (itemsOf .range2 (← gs δ))) := by
  subst hx
  refine (pi_range2 hg hm ha (by rw [shape_star hs, shape_star hs2]; rfl) (by rw [shape_star hs2]; rfl)).imp fun σ H R ⟨ω, δ, S, s, q⟩ => ⟨ω, δ, S, s, ?_⟩
  dsimp only at q
  rw [M.bind_run] at q
  cases e : gs δ S with
  | exc _ _ => rw [e] at q; exact q.elim
  | no => rw [e] at q; exact q.elim
  | ok ds S1 =>
    rw [e] at q
    intro ω1 vs H1 g1 s1 r1
    match ds, r1, q with
    | [d, e], r1, q =>
      obtain ⟨v, w, rfl, rv, rw'⟩ := two_of r1
      cases d with
      | int i => cases e with
        | int j =>
          by_cases hz : (small i && small j) = true
          · simp only [itemsOf, if_pos hz] at q
            obtain ⟨h1, h2⟩ := Bool.and_eq_true_iff.mp hz
            obtain ⟨z1, z2⟩ := small_of h1
            obtain ⟨z3, z4⟩ := small_of h2
            exact ⟨i, j, by rw [rv.int, rw'.int], ⟨z1, z2, z3, z4⟩, q ω1 H1 _ g1 s1 (Pk.range i _)⟩
          · simp only [itemsOf, if_neg hz] at q
            exact q.elim
        | _ => exact q.elim
      | _ => exact q.elim
    | [], _, q => exact q.elim
    | [d], _, q => cases d <;> exact q.elim
    | d :: e :: _ :: _, _, q => cases d <;> first | exact q.elim | (cases e <;> exact q.elim)
theorem downL_get : ∀ (n : Nat) (hi : Int) (i : Nat), i < n → (downL n hi)[i]? = some (.int (hi + (i : Nat) * (-1)))
  | 0, _, _, h => absurd h (by omega)
  | n + 1, hi, 0, _ => by simp [downL]
  | n + 1, hi, i + 1, h => by
    have := downL_get n (hi - 1) i (by omega)
    simp only [downL, List.getElem?_cons_succ, this]
    congr 2
    omega
theorem downL_len : ∀ (n : Nat) (hi : Int), (downL n hi).length = n
  | 0, _ => rfl
  | n + 1, hi => by simp [downL, downL_len n (hi - 1)]
theorem Pk.down {ω : Wd} {H : Hp} (hi : Int) (n : Nat) : Pk K cl Mu ω H (downL n hi) (Itc hi (-1) n) := by
  refine ⟨_, _, by rw [downL_len]; exact walk_rangeC, fun _ _ _ => trivial, fun i ω1 H1 x H2 hi' go wok y => ?_⟩
  obtain ⟨rfl, rfl⟩ := y
  rw [downL_len] at hi'
  exact ⟨.inl rfl, _, downL_get n hi i hi', .int _⟩
theorem three_of {ω : Wd} {H : Hp} {b : Bool} {vs : List V} {d e f : D} (r : RepFL K cl b ω H vs [d, e, f]) : ∃ u v w, vs = [u, v, w] ∧ RepF K cl b ω H u d ∧ RepF K cl b ω H v e ∧ RepF K cl b ω H w f := by
  cases r with
  | cons r1 r =>
    cases r with
    | cons r2 r =>
      cases r with
      | cons r3 r =>
        cases r
        exact ⟨_, _, _, rfl, r1, r2, r3⟩
theorem ri_range3 {x : Str} {c2 : Expr} (hx : x = "range") (hg : Gl X x) (hm : X.mg x = none) (ha : PA X [a, c, c2] (tA X.K cl own true gs)) (hs : okShape a = true) (hs2 : okShape c = true) (hs3 : okShape c2 = true) : PI X tg (.Call (.Name x p) [a, c, c2] [] pos) (tI X.K cl own Mu fun δ => do M.ofO (itemsOf .range3 (← gs δ))) := by
  subst hx
  refine (pi_range3 hg hm ha (by rw [shape_star hs, shape_star hs2, shape_star hs3]) (by rw [shape_star hs2, shape_star hs3]; rfl)).imp fun σ H R ⟨ω, δ, S, s, q⟩ => ⟨ω, δ, S, s, ?_⟩
  dsimp only at q
  rw [M.bind_run] at q
  cases e : gs δ S with
  | exc _ _ => rw [e] at q; exact q.elim
  | no => rw [e] at q; exact q.elim
  | ok ds S1 =>
    rw [e] at q
    intro ω1 vs H1 g1 s1 r1
    match ds, r1, q with
    | [d, e, f], r1, q =>
      obtain ⟨u, v, w, rfl, ru, rv, rw'⟩ := three_of r1
      cases d with
      | int i => cases e with
        | int j => cases f with
          | int k =>
            by_cases hz : ((small i && small j) && k == -1) = true
            · simp only [itemsOf, if_pos hz] at q
              simp only [Bool.and_eq_true, beq_iff_eq] at hz
              obtain ⟨⟨h1, h2⟩, rfl⟩ := hz
              obtain ⟨z1, z2⟩ := small_of h1
              obtain ⟨z3, z4⟩ := small_of h2
              exact ⟨i, j, -1, _, by rw [ru.int, rv.int, rw'.int], RgC.neg z1 z2 z3 z4, q ω1 H1 _ g1 s1 (Pk.down i _)⟩
            · simp only [itemsOf, if_neg hz] at q
              exact q.elim
          | _ => exact q.elim
        | _ => exact q.elim
      | _ => exact q.elim
    | [], _, q => exact q.elim
    | [d], _, q => cases d <;> exact q.elim
    | [d, e], _, q => cases d <;> first | exact q.elim | (cases e <;> exact q.elim)
    | d :: e :: f :: _ :: _, _, q => cases d <;> first | exact q.elim | (cases e <;> first | exact q.elim | (cases f <;> exact q.elim))
end
end RF
end
section
set_option linter.all false
set_option maxRecDepth 100000
set_option maxHeartbeats 4000000
set_option autoImplicit false
/-! RfSnd10: targets, comprehensions. -/
namespace RF
open PySem PySem.Spec L2
open PyProof.Rows hiding St
section
variable {K : PySem.W.Frag} {cl : Nat → Addr} {own : List Nat} {ω ω' ω1 : Wd} {H H' H1 : Hp} {σ σ' : L2.St} {δ δ' : En} {S S' : Sto} {v : V} {d : D} {Mu : List Nat}
theorem SR.moveS (s : SR K cl own ω σ H δ S) (g : GoS Mu ω H ω' H') (hM : ∀ i ∈ own, i ∉ Mu) (ho : ∀ i ∈ own, ω'.ow i = ω.ow i) (wok : WOk ω' H') (sto : StoOk K cl ω' H' S') : SR K cl own ω' σ H' δ S' := by
  refine ⟨s.len, wok, fun i d h1 h2 => ?_, fun i d h1 h2 => ?_, sto⟩
  · obtain ⟨v, z, y⟩ := s.slot i d h1 h2
    exact ⟨v, z, y.go g⟩
  · rcases s.osl i d h1 h2 with ⟨a, z, y, x⟩ | ⟨hm, v, z, y⟩
    case inr => exact .inr ⟨hm, v, z, y.go g⟩
    refine .inl ⟨a, z, by rw [ho i h2]; exact y, x.go g ?_⟩
    have w := s.wok.ow i a y
    cases e : H a with
    | none => exact absurd e w.1
    | some o => exact g.keep a o e w.2.1 fun j hj q => hM i h2 (by rw [s.wok.inj i j a y q]; exact hj)
theorem SR.move (s : SR K cl own ω σ H δ S) (g : Go ω H ω' H') (wok : WOk ω' H') (sto : StoOk K cl ω' H' S') : SR K cl own ω' σ H' δ S' :=
  s.moveS g.st (fun _ _ z => nomatch z) (fun i _ => by rw [g.eq]) wok sto
theorem wipe_len : ∀ (δ : En) (vs : List Nat), (RF.wipe δ vs).length = δ.length
  | _, [] => rfl
  | δ, v :: vs => by unfold RF.wipe; rw [List.length_set, wipe_len δ vs]
theorem wipe_get : ∀ {δ : En} {vs : List Nat} {i : Nat} {d : D}, (RF.wipe δ vs)[i]? = some (some d) → δ[i]? = some (some d) ∧ i ∉ vs
  | _, [], _, _, h => ⟨h, by simp⟩
  | δ, v :: vs, i, d, h => by
    unfold RF.wipe at h
    by_cases e : v = i
    · subst e
      rw [List.getElem?_set] at h
      simp only [if_true] at h
      split at h <;> cases h
    · rw [List.getElem?_set_ne e] at h
      obtain ⟨h1, h2⟩ := wipe_get h
      refine ⟨h1, fun z => ?_⟩
      rcases List.mem_cons.mp z with z | z
      · exact e z.symm
      · exact h2 z
theorem SR.wipe (s : SR K cl own ω σ H δ S) (vs : List Nat) : SR K cl own ω (L2.wipe σ vs) H (RF.wipe δ vs) S := by
  refine ⟨by rw [wipe_length, wipe_len, s.len], s.wok, fun i d h1 h2 => ?_, fun i d h1 h2 => ?_, s.sto⟩
  · obtain ⟨h3, h4⟩ := wipe_get h1
    rw [wipe_out h4]
    exact s.slot i d h3 h2
  · obtain ⟨h3, h4⟩ := wipe_get h1
    rw [wipe_out h4]
    exact s.osl i d h3 h2
theorem SR.set {i : Nat} (s : SR K cl own ω σ H δ S) (r : Rep K cl ω H v d) (hi : i ∉ own) (hl : i < δ.length) : SR K cl own ω (σ.set i (some v)) H (δ.set i (some d)) S := by
  have hl2 : i < σ.length := by rw [s.len]; exact hl
  refine ⟨by simp [s.len], s.wok, fun j e h1 h2 => ?_, fun j e h1 h2 => ?_, s.sto⟩
  · by_cases z : i = j
    · subst z
      rw [List.getElem?_set_self hl] at h1
      cases h1
      exact ⟨v, by rw [List.getElem?_set_self hl2], r⟩
    · rw [List.getElem?_set_ne z] at h1
      rw [List.getElem?_set_ne z]
      exact s.slot j e h1 h2
  · have z : i ≠ j := fun y => hi (y ▸ h2)
    rw [List.getElem?_set_ne z] at h1
    rw [List.getElem?_set_ne z]
    exact s.osl j e h1 h2
theorem Own.as {a : Addr} (r : Own K cl ω H a d) (e1 : ω'.rho = ω.rho) (e2 : ∀ b, ω'.bar b → ω.bar b) : Own K cl ω' H a d := by
  cases d with
  | lst ds => obtain ⟨vs, q, r⟩ := r; exact ⟨vs, q, r.as e1 e2⟩
  | dct ds => obtain ⟨vs, q, r⟩ := r; exact ⟨vs, q, r.as e1 e2⟩
  | ins c gs => obtain ⟨dx, fs, q, r⟩ := r; exact ⟨dx, fs, q, r.as e1 e2⟩
  | _ => exact r.elim
end
/-! ### targets -/
mutual
def Tg.slots : Tg → List Nat
  | .nm i => [i]
  | .tup l => Tg.slotsL l
def Tg.slotsL : List Tg → List Nat
  | [] => []
  | t :: r => Tg.slots t ++ Tg.slotsL r
end
section
variable (K : PySem.W.Frag) (cl : Nat → Addr) (own : List Nat)
def tGt (t : Tg) : TG := fun v σ H Q => ∃ ω δ S d, SR K cl own ω σ H δ S ∧ Rep K cl ω H v d ∧ (match bindT t d δ with
  | some δ' => ∀ σ', SR K cl own ω σ' H δ' S → (∀ vs : List Nat, (∀ i ∈ Tg.slots t, i ∈ vs) → L2.wipe σ' vs = L2.wipe σ vs) → Q σ' H
  | none => False)
def tGts (ts : List Tg) : TGs := fun vs σ H Q => ∃ ω δ S ds, SR K cl own ω σ H δ S ∧ RepL K cl ω H vs ds ∧ (match bindTs ts ds δ with
  | some δ' => ∀ σ', SR K cl own ω σ' H δ' S → (∀ vs : List Nat, (∀ i ∈ Tg.slotsL ts, i ∈ vs) → L2.wipe σ' vs = L2.wipe σ vs) → Q σ' H
  | none => False)
end
theorem wipe_set {σ : L2.St} {i : Nat} {o : Option V} : ∀ {vs : List Nat}, i ∈ vs → L2.wipe (σ.set i o) vs = L2.wipe σ vs
  | [], h => nomatch h
  | v :: vs, h => by
    unfold L2.wipe
    by_cases e : i ∈ vs
    · rw [wipe_set e]
    · have e1 : v = i := by
        rcases List.mem_cons.mp h with z | z
        · exact z.symm
        · exact absurd z e
      subst e1
      have gen : ∀ (vs : List Nat) (σ : L2.St), v ∉ vs → (L2.wipe (σ.set v o) vs).set v none = (L2.wipe σ vs).set v none := by
        intro vs
        induction vs with
        | nil => intro σ _; unfold L2.wipe; rw [List.set_set]
        | cons u us ih =>
          intro σ hn
          have hu : u ≠ v := fun z => hn (by simp [z])
          have hus : v ∉ us := fun z => hn (List.mem_cons_of_mem _ z)
          unfold L2.wipe
          rw [List.set_comm none none hu, ih σ hus, List.set_comm none none hu]
      exact gen vs σ e
section
variable {K : PySem.W.Frag} {cl : Nat → Addr} {own : List Nat} {X : Cx} {pos : Pos}
theorem PG.imp {tg : Expr} {t t' : TG} (h : PG X tg t) (k : ∀ v σ H Q, t' v σ H Q → t v σ H Q) : PG X tg t' := ⟨fun pins s σ H v u Q I r q => h.run pins s σ H v u Q I r (k v σ H Q q)⟩
theorem PGs.imp {tg : List Expr} {t t' : TGs} (h : PGs X tg t) (k : ∀ v σ H Q, t' v σ H Q → t v σ H Q) : PGs X tg t' := ⟨fun pins s σ H v u Q I r q => h.run pins s σ H v u Q I r (k v σ H Q q)⟩
theorem rg_name {x : Str} {i : Nat} (hN : X.N.Nodup) (hi : X.N[i]? = some x) (hx : Loc X.env.scope x) (hf : X.fn x = true ∨ X.env.scope.names.lookup x = some .local) (ho : i ∉ own) : PG X (.Name x pos) (tGt K cl own (.nm i)) := by
  refine PG.imp (pg_name hN hi hx hf) fun v σ H Q ⟨ω, δ, S, d, s, r, q⟩ => ?_
  unfold bindT at q
  by_cases hl : i < δ.length
  · rw [if_pos hl] at q
    exact q _ (s.set r ho hl) fun vs hv => wipe_set (hv i (by simp [Tg.slots]))
  · rw [if_neg hl] at q
    exact q.elim
theorem rgs_nil : PGs X [] (tGts K cl own []) := by
  refine PGs.imp pgs_nil fun v σ H Q ⟨ω, δ, S, ds, s, r, q⟩ => ?_
  cases ds with
  | nil => exact ⟨List.length_eq_zero_iff.mp r.1, q σ s fun _ _ => rfl⟩
  | cons _ _ => exact q.elim
theorem assign_cons {e : Expr} {es : List Expr} {env : Env} (h : okShape e = true) : (assignEach (e :: es) env).map (·.2) = assign e env :: (assignEach es env).map (·.2) := by
  cases e <;> first | rfl | cases h
theorem rgs_cons {e : Expr} {es : List Expr} {t : Tg} {ts : List Tg} (h1 : PG X e (tGt K cl own t)) (h2 : PGs X es (tGts K cl own ts)) (hs : okShape e = true) : PGs X (e :: es) (tGts K cl own (t :: ts)) := by
  refine PGs.imp (pgs_cons h1 h2 (assign_cons hs)) fun v σ H Q ⟨ω, δ, S, ds, s, r, q⟩ => ?_
  cases ds with
  | nil => exact q.elim
  | cons d ds =>
    cases v with
    | nil => have := r.1; simp at this
    | cons v vs =>
      refine ⟨v, vs, rfl, ω, δ, S, d, s, r.head, ?_⟩
      unfold bindTs at q
      cases e : bindT t d δ with
      | none => rw [e] at q; exact q.elim
      | some δ' =>
        rw [e] at q
        intro σ' s' w'
        refine ⟨ω, δ', S, ds, s', r.tail, ?_⟩
        simp only [Option.bind_some] at q
        cases e2 : bindTs ts ds δ' with
        | none => rw [e2] at q; exact q.elim
        | some δ'' =>
          rw [e2] at q
          intro σ'' s'' w''
          refine q σ'' s'' fun vs hv => ?_
          rw [w'' vs fun i hi => hv i (by simp [Tg.slotsL, hi]), w' vs fun i hi => hv i (by simp [Tg.slotsL, hi])]
theorem assign_shape : ∀ {es : List Expr} {env : Env}, es.all okShape = true → (assignEach es env).length = es.length ∧ (assignEach es env).findIdx? (·.1) = none := by
  intro es env h
  have e : assignEach es env = es.map fun t => (false, assign t env) := by
    induction es with
    | nil => rfl
    | cons t es ih =>
      rw [List.all_cons, Bool.and_eq_true] at h
      have h1 : assignEach (t :: es) env = (false, assign t env) :: assignEach es env := by
        cases t <;> first | rfl | (have := h.1; cases this)
      rw [h1, ih h.2]
      rfl
  rw [e]
  refine ⟨by simp, ?_⟩
  rw [List.findIdx?_eq_none_iff]
  intro x hx
  obtain ⟨t, _, rfl⟩ := List.mem_map.mp hx
  rfl
theorem bindTs_len : ∀ {ts : List Tg} {ds : List D} {δ δ' : En}, bindTs ts ds δ = some δ' → ds.length = ts.length
  | [], [], _, _, _ => rfl
  | [], _ :: _, _, _, h => by cases h
  | _ :: _, [], _, _, h => by cases h
  | t :: ts, d :: ds, δ, δ', h => by
    unfold bindTs at h
    cases e : bindT t d δ with
    | none => rw [e] at h; cases h
    | some δ1 =>
      rw [e] at h
      simp [bindTs_len (show bindTs ts ds δ1 = some δ' from h)]
theorem rg_tup {es : List Expr} {k : Nat} {ts : List Tg} (hc : X.calm = true) (h : PGs X es (tGts X.K cl own ts)) (hs : es.all okShape = true) (hl : es.length = ts.length) : PG X (.Tuple es k pos) (tGt X.K cl own (.tup ts)) := by
  obtain ⟨h1, h2⟩ := assign_shape (env := X.env) hs
  refine PG.imp (pg_tup (n := es.length) hc h h1 h2) fun v σ H Q ⟨ω, δ, S, d, s, r, q⟩ => ?_
  cases d with
  | tup ds =>
    obtain ⟨a, vs, rfl, ha, ra⟩ := r.seqT
    unfold bindT at q
    cases e : bindTs ts ds δ with
    | none => rw [e] at q; exact q.elim
    | some δ' =>
      refine ⟨a, vs, rfl, ha, by rw [ra.1, bindTs_len e, hl], ω, δ, S, ds, s, ra, ?_⟩
      rw [e] at q ⊢
      exact fun σ' s' w' => q σ' s' w'
  | _ => exact q.elim
/-! ### comprehensions -/
theorem Rep.chg {ω : Wd} {H H' : Hp} {v : V} {d : D} (r : Rep K cl ω H v d) (h1 : ∀ a o, H a = some o → ¬ ω.bar a → H' a = some o) (h2 : ∀ a xs, PTu K H a xs → PTu K H' a xs) : Rep K cl ω H' v d := by
  induction r with
  | non => exact .non
  | bl b => exact .bl b
  | int i => exact .int i
  | str x => exact .str x
  | tup h l e ih => exact .tup (h2 _ _ h) l ih
  | lst h n l e ih => exact .lst (h1 _ _ h n) n l ih
  | dct h n l ek e ih => exact .dct (h1 _ _ h n) n l ek ih
  | ins h n l ek e ih => exact .ins (h1 _ _ h n) n l ek ih
  | obj h => exact .obj h
  | frz h l e ih => exact .frz (h.imp (fun ⟨o, q, n⟩ => ⟨o, h1 _ _ q n, n⟩) id) l ih
theorem RepL.chg {ω : Wd} {H H' : Hp} {vs : List V} {ds : List D} (r : RepL K cl ω H vs ds) (h1 : ∀ a o, H a = some o → ¬ ω.bar a → H' a = some o) (h2 : ∀ a xs, PTu K H a xs → PTu K H' a xs) : RepL K cl ω H' vs ds :=
  ⟨r.1, fun i v d q1 q2 => (r.2 i v d q1 q2).chg h1 h2⟩
theorem RepK.chg {κ : Type} {ω : Wd} {H H' : Hp} {vs : List (κ × V)} {ds : List (κ × D)} (r : RepK K cl ω H vs ds) (h1 : ∀ a o, H a = some o → ¬ ω.bar a → H' a = some o) (h2 : ∀ a xs, PTu K H a xs → PTu K H' a xs) : RepK K cl ω H' vs ds :=
  ⟨r.1, fun i k v q d q1 q2 => ⟨(r.2 i k v q d q1 q2).1, (r.2 i k v q d q1 q2).2.chg h1 h2⟩⟩
theorem Own.chg {ω : Wd} {H H' : Hp} {a : Addr} {d : D} (r : Own K cl ω H a d) (h1 : ∀ a o, H a = some o → ¬ ω.bar a → H' a = some o) (h2 : ∀ a xs, PTu K H a xs → PTu K H' a xs) (e : H' a = H a) : Own K cl ω H' a d := by
  cases d with
  | lst ds => obtain ⟨vs, q, r⟩ := r; exact ⟨vs, e.trans q, r.chg h1 h2⟩
  | dct ds => obtain ⟨vs, q, r⟩ := r; exact ⟨vs, e.trans q, r.chg h1 h2⟩
  | ins c gs => obtain ⟨dx, fs, q, r⟩ := r; exact ⟨dx, fs, e.trans q, r.chg h1 h2⟩
  | _ => exact r.elim
/-- p, which is a list, dict or instance, is changed -/
theorem upd_ptu {H : Hp} {p : Addr} {o : HO} (hp : ∀ xs, ¬ Rd H p (.tup xs)) {a : Addr} {xs : List V} (h : PTu K H a xs) : PTu K (L2.upd H p o) a xs := by
  rcases h with h | h
  · left
    obtain ⟨u, h, hd⟩ := h
    have hn : a ≠ p := fun z => hp xs (.inr ⟨u, z ▸ h⟩)
    exact ⟨u, by rw [upd_ne hn]; exact h, hd⟩
  · exact .inr h
theorem upd_bar {ω : Wd} {H : Hp} {p : Addr} {o : HO} (hb : ω.bar p) : ∀ a u, H a = some u → ¬ ω.bar a → L2.upd H p o a = some u := fun a u h n => by
  rw [upd_ne (fun z => n (by rw [z]; exact hb))]
  exact h
theorem WOk.dom {ω : Wd} {H H' : Hp} (k : WOk ω H) (d : ∀ a, H a ≠ none → H' a ≠ none) : WOk ω H' :=
  ⟨k.nd, fun a h => d a (k.rho a h), fun i a h => ⟨d a (k.ow i a h).1, (k.ow i a h).2⟩, k.inj, fun a h => ⟨d a (k.av a h).1, (k.av a h).2⟩⟩
theorem upd_dom {H : Hp} {p : Addr} {o : HO} : ∀ a, H a ≠ none → L2.upd H p o a ≠ none := fun a h => by
  by_cases e : a = p
  · subst e; rw [upd_same]; simp
  · rw [upd_ne e]; exact h
/-- what is barred by av alone is changed -/
theorem SR.chgAv {ω : Wd} {H : Hp} {σ : L2.St} {δ : En} {S : Sto} {p : Addr} {o : HO} (s : SR K cl own ω σ H δ S) (ha : ω.av p) (hp : ∀ xs, ¬ Rd H p (.tup xs)) : SR K cl own ω σ (L2.upd H p o) δ S := by
  have h1 := upd_bar (H := H) (o := o) (p := p) (ω := ω) (.inr (.inr ha))
  have h2 : ∀ a xs, PTu K H a xs → PTu K (L2.upd H p o) a xs := fun a xs h => upd_ptu hp h
  refine ⟨s.len, s.wok.dom upd_dom, fun i d q1 q2 => ?_, fun i d q1 q2 => ?_, ⟨s.sto.len, fun n a d q1 q2 => ?_⟩⟩
  · obtain ⟨v, z, y⟩ := s.slot i d q1 q2
    exact ⟨v, z, y.chg h1 h2⟩
  · rcases s.osl i d q1 q2 with ⟨a, z, y, x⟩ | ⟨hm, v, z, y⟩
    · exact .inl ⟨a, z, y, x.chg h1 h2 (upd_ne fun e => (s.wok.ow i a y).2.2 (e ▸ ha))⟩
    · exact .inr ⟨hm, v, z, y.chg h1 h2⟩
  · exact (s.sto.obj n a d q1 q2).chg h1 h2 (upd_ne fun e => (s.wok.av p ha).2 (e ▸ List.mem_of_getElem? q1))
abbrev Wd.plus (ω : Wd) (p : Addr) : Wd := { ω with av := fun a => ω.av a ∨ a = p }
theorem GoS.plus {ω : Wd} {H : Hp} {p : Addr} {o : HO} (hp : H p = none) : GoS [] ω H (ω.plus p) (L2.upd H p o) := by
  have g := (Go.upd' (o := o) ω hp).st
  refine ⟨g.pre, g.keep, g.tup, g.new, g.own, fun a h => ?_, g.dom⟩
  rcases h with h | h
  · exact .inl h
  · exact .inr (.inl (h ▸ hp))
theorem WOk.plus {ω : Wd} {H : Hp} {p : Addr} {o : HO} (k : WOk ω H) (hp : H p = none) : WOk (ω.plus p) (L2.upd H p o) := by
  have k' := k.dom (upd_dom (o := o) (p := p))
  refine ⟨k'.nd, k'.rho, fun i a h => ⟨(k'.ow i a h).1, (k'.ow i a h).2.1, fun z => ?_⟩, k'.inj, fun a h => ?_⟩
  · rcases z with z | z
    · exact (k'.ow i a h).2.2 z
    · exact (k.ow i a h).1 (z ▸ hp)
  · rcases h with h | h
    · exact k'.av a h
    · subst h
      exact ⟨by rw [upd_same]; simp, fun z => k.rho _ z hp⟩
theorem SR.plus {ω : Wd} {H : Hp} {σ : L2.St} {δ : En} {S : Sto} {p : Addr} {o : HO} (s : SR K cl own ω σ H δ S) (hp : H p = none) : SR K cl own (ω.plus p) σ (L2.upd H p o) δ S :=
  s.moveS (GoS.plus hp) (fun _ _ z => nomatch z) (fun _ _ => rfl) (s.wok.plus hp) (s.sto.go (GoS.plus hp) rfl fun a h => upd_ne fun z => s.wok.rho a h (z ▸ hp))
/-- a new object is changed -/
theorem GoS.chgNew {ω ω' : Wd} {H H' : Hp} {p : Addr} {o : HO} {M : List Nat} (g : GoS M ω H ω' H') (hp : H p = none) : GoS M ω H ω' (L2.upd H' p o) := by
  refine ⟨g.pre, fun a u h n m => ?_, fun a xs h => ?_, g.new, g.own, g.av, fun a h => upd_dom a (g.dom a h)⟩
  · rw [upd_ne (ne_of_none h hp)]
    exact g.keep a u h n m
  · have hn : a ≠ p := fun z => by
      subst z
      obtain ⟨u, h, _⟩ := h
      rw [hp] at h
      cases h
    obtain ⟨u, h, hd⟩ := g.tup a xs h
    exact ⟨u, by rw [upd_ne hn]; exact h, hd⟩
/-! ### new things: nothing else leads to them -/
structure NewAt (ω : Wd) (H : Hp) (ω' : Wd) (H' : Hp) (as : List Addr) : Prop where
  st : GoS [] ω H ω' H'
  eq : ω'.ow = ω.ow
  av : ∀ b, ω'.av b ↔ ω.av b ∨ b ∈ as
  nd : as.Nodup
  new : ∀ a ∈ as, H a = none
theorem none_of_dom {ω ω' : Wd} {H H' : Hp} {a : Addr} {M : List Nat} (g : GoS M ω H ω' H') (h : H' a = none) : H a = none := by
  cases e : H a with
  | none => rfl
  | some o => exact absurd h (g.dom a (by rw [e]; simp))
theorem NewAt.of {ω ω' : Wd} {H H' : Hp} (g : Go ω H ω' H') : NewAt ω H ω' H' [] := ⟨g.st, g.eq, fun b => by rw [g.ea]; simp, List.nodup_nil, fun a h => nomatch h⟩
theorem NewAt.trans {ω ω1 ω2 : Wd} {H H1 H2 : Hp} {as bs : List Addr} (h : NewAt ω H ω1 H1 as) (k : NewAt ω1 H1 ω2 H2 bs) (w : WOk ω1 H1) : NewAt ω H ω2 H2 (as ++ bs) := by
  refine ⟨h.st.trans k.st, k.eq.trans h.eq, fun b => ?_, List.nodup_append.mpr ⟨h.nd, k.nd, fun a ha b hb e => ?_⟩, fun a ha => ?_⟩
  · rw [k.av, h.av, List.mem_append, or_assoc]
  · subst e
    exact (w.av a ((h.av a).mpr (.inr ha))).1 (k.new a hb)
  · rcases List.mem_append.mp ha with z | z
    · exact h.new a z
    · exact none_of_dom h.st (k.new a z)
/-- given away -/
theorem NewAt.give {ω ω' : Wd} {H H' : Hp} {σ : L2.St} {δ : En} {S : Sto} {a : Addr} {d : D} (n : NewAt ω H ω' H' [a]) (k : WOk ω H) (s : SR K cl own ω' σ H' δ S) (o : Own K cl ω' H' a d) :
    ∃ ω'', Go ω H ω'' H' ∧ SR K cl own ω'' σ H' δ S ∧ Rep K cl ω'' H' (.ref a) d := by
  let ω4 : Wd := { ω' with av := ω.av }
  have hb : ∀ b, ω4.bar b → ω'.bar b := fun b z => by
    rcases z with z | z | z
    · exact .inl z
    · exact .inr (.inl z)
    · exact .inr (.inr ((n.av b).mpr (.inl z)))
  have ha : ω'.av a := (n.av a).mpr (.inr (by simp))
  have hn : ¬ ω4.bar a := fun z => by
    rcases z with z | ⟨i, z⟩ | z
    · exact (s.wok.av a ha).2 z
    · exact (s.wok.ow i a z).2.2 ha
    · exact (k.av a z).1 (n.new a (by simp))
  refine ⟨ω4, ⟨⟨n.st.pre, n.st.keep, n.st.tup, n.st.new, n.st.own, fun b z => .inl z, n.st.dom⟩, n.eq, rfl⟩, ⟨s.len, ⟨s.wok.nd, s.wok.rho, fun i b z => ?_, s.wok.inj, fun b z => s.wok.av b ((n.av b).mpr (.inl z))⟩, fun i d q1 q2 => ?_, fun i d q1 q2 => ?_, ⟨s.sto.len, fun m b d q1 q2 => ?_⟩⟩, o.rep rfl hb hn⟩
  · exact ⟨(s.wok.ow i b z).1, (s.wok.ow i b z).2.1, fun y => (s.wok.ow i b z).2.2 ((n.av b).mpr (.inl y))⟩
  · obtain ⟨v, z, y⟩ := s.slot i d q1 q2
    exact ⟨v, z, y.as rfl hb⟩
  · rcases s.osl i d q1 q2 with ⟨b, z, y, x⟩ | ⟨hm, v, z, y⟩
    · exact .inl ⟨b, z, y, x.as rfl hb⟩
    · exact .inr ⟨hm, v, z, y.as rfl hb⟩
  · exact (s.sto.obj m b d q1 q2).as rfl hb
section
variable (K : PySem.W.Frag) (cl : Nat → Addr) (own : List Nat)
/-- what a new thing is to reach -/
def nG (ω : Wd) (H : Hp) (σ : L2.St) (δ : En) (Q : VK) : Out D → Prop
  | .ok d S' => ∀ ω' a H', NewAt ω H ω' H' [a] → SR K cl own ω' σ H' δ S' → Own K cl ω' H' a d → Q (.ref a) H'
  | _ => False
def tN1 (f : En → M D) : TE := fun σ H Q => ∃ ω δ S, SR K cl own ω σ H δ S ∧ nG K cl own ω H σ δ Q (f δ S)
end
theorem NewAt.before {ω ω1 ω2 : Wd} {H H1 H2 : Hp} {as : List Addr} (g : Go ω H ω1 H1) (w : WOk ω1 H1) (n : NewAt ω1 H1 ω2 H2 as) : NewAt ω H ω2 H2 as := by
  have := (NewAt.of g).trans n w
  rwa [List.nil_append] at this
theorem nG.go {ω ω1 : Wd} {H H1 : Hp} {σ : L2.St} {δ : En} {Q : VK} {x : Out D} (h : nG K cl own ω H σ δ Q x) (g : Go ω H ω1 H1) (w : WOk ω1 H1) : nG K cl own ω1 H1 σ δ Q x := by
  cases x with
  | ok a s => exact fun ω' a H' n s' o => h ω' a H' (n.before g w) s' o
  | exc e s => exact h.elim
  | no => exact h.elim
theorem nG_bind {α γ : Type} {R : Wd → Hp → γ → α → Prop} {ω : Wd} {H : Hp} {σ : L2.St} {δ : En} {S : Sto} {f : M α} {k : α → M D} {Q : VK} {T : γ → Hp → Prop} (h : nG K cl own ω H σ δ Q ((f >>= k) S))
    (hk : ∀ (ω' : Wd) (g : γ) (H' : Hp) (a : α) (S' : Sto), Go ω H ω' H' → SR K cl own ω' σ H' δ S' → R ω' H' g a → nG K cl own ω' H' σ δ Q (k a S') → T g H') : pG K cl own R ω H σ δ T (f S) := by
  rw [M.bind_run] at h
  cases e : f S with
  | ok a s =>
    rw [e] at h
    exact fun ω' g H' go sr r => hk ω' g H' a s go sr r (nG.go h go sr.wok)
  | exc x s => rw [e] at h; exact h.elim
  | no => rw [e] at h; exact h.elim
/-- a new list or dict comes -/
theorem nG.mk {ω : Wd} {H : Hp} {σ : L2.St} {δ : En} {S : Sto} {Q : VK} {d : D} {p : Addr} {o : HO} (h : nG K cl own ω H σ δ Q (.ok d S)) (s : SR K cl own ω σ H δ S) (hp : H p = none) (r : Own K cl (ω.plus p) (L2.upd H p o) p d) : Q (.ref p) (L2.upd H p o) :=
  h (ω.plus p) p _ ⟨GoS.plus hp, rfl, fun b => by simp, by simp, fun a z => by simp at z; rw [z]; exact hp⟩ (s.plus hp) r
theorem RepL.plus {ω : Wd} {H : Hp} {vs : List V} {ds : List D} {p : Addr} {o : HO} (r : RepL K cl ω H vs ds) (hp : H p = none) : RepL K cl (ω.plus p) (L2.upd H p o) vs ds := r.go (GoS.plus hp)
theorem RepK.plus {κ : Type} {ω : Wd} {H : Hp} {vs : List (κ × V)} {ds : List (κ × D)} {p : Addr} {o : HO} (r : RepK K cl ω H vs ds) (hp : H p = none) : RepK K cl (ω.plus p) (L2.upd H p o) vs ds := r.go (GoS.plus hp)
/-- what is new may be given away -/
theorem pe_give {X : Cx} {e : Expr} {f : En → M D} (h : PE X e (tN1 K cl own f)) (b : Bool) : PE X e (tE K cl own b f) := by
  refine h.imp fun σ H Q ⟨ω, δ, S, s, q⟩ => ⟨ω, δ, S, s, ?_⟩
  cases e : f δ S with
  | ok d S' =>
    rw [e] at q
    intro ω' a H' n s' o
    obtain ⟨ω'', g, s'', r⟩ := n.give s.wok s' o
    exact q ω'' (.ref a) H' g s'' (RepF.of r)
  | exc _ _ => rw [e] at q; exact q.elim
  | no => rw [e] at q; exact q.elim
variable {elt tg iter : Expr} {ifs : List Expr} {scope : Scope} {ow : List (Str × Nat)} {itf : En → M (List D)} {t : Tg} {tt : En → M Bool} {te : En → M D} {b : Bool}
def compF (t : Tg) (vs : List Nat) (tt : En → M Bool) (te : En → M D) (δ : En) : D → M (Option D) := fun d => do
  let δ' ← M.ofO (bindT t d (RF.wipe δ vs))
  if ← tt δ' then do pure (some (← te δ')) else pure none
/-- what a comprehension asks -/
theorem lc_ok (hv : ∀ i ∈ Tg.slots t, i ∈ ow.map (·.2)) {σ : L2.St} {H : Hp} {Q : VK} {ω : Wd} {δ : En} {S : Sto} (s : SR K cl own ω σ H δ S)
    (q : nG K cl own ω H σ δ Q ((do
      let items ← itf δ
      let l ← compL (compF t (ow.map (·.2)) tt te δ) items
      if items.length < line then pure (.lst l) else M.no : M D) S)) :
    tLc (tI K cl own [] itf) (tGt K cl own t) (tT K cl own tt) (tE K cl own false te) (ow.map (·.2)) σ H Q := by
  refine ⟨ω, δ, S, s, ?_⟩
  rw [M.bind_run] at q
  cases e : itf δ S with
  | exc _ _ => rw [e] at q; exact q.elim
  | no => rw [e] at q; exact q.elim
  | ok items S1 =>
    rw [e] at q
    dsimp only at q ⊢
    rw [M.bind_run] at q
    cases e2 : compL (compF t (ow.map (·.2)) tt te δ) items S1 with
    | exc _ _ => rw [e2] at q; exact q.elim
    | no => rw [e2] at q; exact q.elim
    | ok full Sn =>
      rw [e2] at q
      by_cases hz : items.length < line
      case neg => simp only [if_neg hz] at q; exact q.elim
      case pos =>
      simp only [if_pos hz] at q
      intro ω1 H1 J g1 s1 ⟨G, Y, wk, hG, hY⟩ Dn hD
      have hnt : ∀ {H : Hp} {acc : List V}, H Dn = some (.lst acc) → ∀ xs, ¬ Rd H Dn (.tup xs) := fun h xs z => by
        rcases z with z | ⟨u, z⟩ <;> (rw [h] at z; cases z)
      refine lc_it wk (fun i H => ∃ ω3 S3 acc ds, GoS [] ω1 H1 ω3 H ∧ ω3.ow = ω1.ow ∧ (∀ a, ω3.av a ↔ ω1.av a ∨ a = Dn) ∧ SR K cl own ω3 σ H δ S3 ∧ H Dn = some (.lst acc) ∧ RepL K cl ω3 H acc ds ∧ acc.length ≤ i ∧
        ∃ l, compL (compF t (ow.map (·.2)) tt te δ) (items.drop i) S3 = .ok l Sn ∧ ds ++ l = full) ?_ ?_ ?_ ?_
      · exact ⟨ω1.plus Dn, S1, [], [], GoS.plus hD, rfl, fun a => Iff.rfl, s1.plus hD, upd_same, RepL.nil, Nat.le_refl _, full, e2, rfl⟩
      · rintro i H _ ⟨ω3, S3, acc, ds, g3, _⟩
        exact hG ω3 H g3
      · rintro i x H2 H3 hi ⟨ω3, S3, acc, ds, g3, eo, ea, s3, h3, r3, hl, l, el, ef⟩ y
        obtain ⟨hh, d, hd, rd⟩ := hY i ω3 H2 x H3 hi g3 s3.wok y
        have edrop : items.drop i = d :: items.drop (i + 1) := by
          rw [List.drop_eq_getElem_cons hi]
          rw [List.getElem?_eq_getElem hi] at hd
          cases hd
          rfl
        -- behind the yield
        have k3 : Go ω3 H2 ω3 H3 ∧ SR K cl own ω3 σ H3 δ S3 := by
          rcases hh with rfl | ⟨T, o, hT, rfl⟩
          · exact ⟨Go.refl _ _, s3⟩
          · exact ⟨Go.upd' _ hT, s3.upd hT⟩
        obtain ⟨gy, sy⟩ := k3
        have rd3 : Rep K cl ω3 H3 x d := rd
        rw [edrop] at el
        unfold compL at el
        rw [M.bind_run] at el
        cases e4 : compF t (ow.map (·.2)) tt te δ d S3 with
        | exc _ _ => rw [e4] at el; cases el
        | no => rw [e4] at el; cases el
        | ok od S4 =>
        rw [e4] at el
        dsimp only at el
        rw [M.bind_run] at el
        unfold compF at e4
        rw [M.bind_run] at e4
        refine ⟨ω3, RF.wipe δ (ow.map (·.2)), S3, d, sy.wipe _, rd3, ?_⟩
        cases eb : bindT t d (RF.wipe δ (ow.map (·.2))) with
        | none => rw [eb] at e4; cases e4
        | some δ' =>
        rw [eb] at e4
        intro σ' s4 hw
        have hw' := hw _ hv
        refine ⟨hw'.trans ?_, ω3, δ', S3, s4, ?_⟩
        · have gen : ∀ (vs : List Nat) (σ : L2.St), L2.wipe (L2.wipe σ vs) vs = L2.wipe σ vs := by
            intro vs σ
            apply List.ext_getElem?
            intro j
            by_cases hj : j ∈ vs
            · have hin : ∀ (vs : List Nat) (σ : L2.St), j ∈ vs → (L2.wipe σ vs)[j]? = if j < σ.length then some none else none := by
                intro vs
                induction vs with
                | nil => intro σ h; nomatch h
                | cons v vs ih =>
                  intro σ h
                  unfold L2.wipe
                  by_cases e : v = j
                  · subst e
                    rw [List.getElem?_set, wipe_length]
                    simp
                  · rw [List.getElem?_set_ne e]
                    exact ih σ (by
                      rcases List.mem_cons.mp h with z | z
                      · exact absurd z.symm e
                      · exact z)
              rw [hin vs _ hj, hin vs _ hj, wipe_length]
            · rw [wipe_out hj]
          exact gen _ _
        have e4' : ((tt δ' >>= fun c => if c = true then te δ' >>= fun v => pure (some v) else pure none) : M (Option D)) S3 = .ok od S4 := e4
        rw [M.bind_run] at e4'
        cases et : tt δ' S3 with
        | exc _ _ => rw [et] at e4'; cases e4'
        | no => rw [et] at e4'; cases e4'
        | ok c S5 =>
        rw [et] at e4'
        dsimp only at e4'
        intro ω5 c' H5 g5 s5 rc
        subst rc
        cases c' with
        | false =>
          simp only [Bool.false_eq_true, if_false] at e4' ⊢
          cases e4'
          cases e6 : compL (compF t (ow.map (·.2)) tt te δ) (items.drop (i + 1)) S4 with
          | exc _ _ => rw [e6] at el; cases el
          | no => rw [e6] at el; cases el
          | ok l2 S6 =>
          rw [e6] at el
          cases el
          have gg : Go ω3 H2 ω5 H5 := gy.trans g5
          have hD5 : H5 Dn = some (.lst acc) := gg.st.keep Dn _ h3 (s3.wok.av Dn ((ea Dn).mpr (.inr rfl))).2 fun _ z => nomatch z
          exact ⟨ω5, S4, acc, ds, g3.trans gg.st, gg.eq.trans eo, fun a => by rw [gg.ea]; exact ea a, s3.move gg s5.wok s5.sto, hD5, r3.go gg.st, Nat.le_succ_of_le hl, _, e6, ef⟩
        | true =>
          simp only [if_true] at e4' ⊢
          rw [M.bind_run] at e4'
          refine ⟨ω5, δ', S5, s5, ?_⟩
          cases ee : te δ' S5 with
          | exc _ _ => rw [ee] at e4'; cases e4'
          | no => rw [ee] at e4'; cases e4'
          | ok w S7 =>
          rw [ee] at e4'
          cases e4'
          intro ω7 y7 H7 g7 s7 r7
          cases e6 : compL (compF t (ow.map (·.2)) tt te δ) (items.drop (i + 1)) S4 with
          | exc _ _ => rw [e6] at el; cases el
          | no => rw [e6] at el; cases el
          | ok l2 S6 =>
          rw [e6] at el
          cases el
          have gg : Go ω3 H2 ω7 H7 := (gy.trans g5).trans g7
          have hD7 : H7 Dn = some (.lst acc) := gg.st.keep Dn _ h3 (s3.wok.av Dn ((ea Dn).mpr (.inr rfl))).2 fun _ z => nomatch z
          have ha7 : ω7.av Dn := by rw [gg.ea]; exact (ea Dn).mpr (.inr rfl)
          have s8 := s3.move gg s7.wok s7.sto
          refine ⟨acc, hD7, ?_, ω7, S4, acc ++ [y7], ds ++ [w], (g3.trans gg.st).chgNew hD, gg.eq.trans eo, fun a => by rw [gg.ea]; exact ea a, s8.chgAv ha7 (hnt hD7), upd_same, ?_, by simp; omega, l2, e6, by simpa using ef⟩
          · rw [← line_eq]; omega
          · exact RepL.chg ((r3.go gg.st).append (RepL.cons r7 RepL.nil)) (upd_bar (.inr (.inr ha7))) fun a xs h => upd_ptu (hnt hD7) h
      · rintro H2 ⟨ω3, S3, acc, ds, g3, eo, ea, s3, h3, r3, hl, l, el, ef⟩
        rw [List.drop_length] at el
        cases el
        rw [List.append_nil] at ef
        subst ef
        refine q ω3 Dn H2 (NewAt.before g1 s1.wok ⟨g3, eo, fun a => by rw [ea]; simp, by simp, fun a z => by simp at z; rw [z]; exact hD⟩) s3 ⟨acc, h3, r3⟩
theorem rn_lc (hc : X.calm = true) (hN : X.N.Nodup) (hi : PI X tg iter (tI X.K cl own [] itf)) (ok : BlkOk X.N X.env.scope scope ow)
    (hg : ∀ (s : Shared) (H : Hp) (C : Addr) (cll : List (Str × Addr)) (fp : List Addr), PG (X.blk s H scope (compEnvC scope cll C X.env) fp) tg (tGt X.K cl own t))
    (ht : ∀ (s : Shared) (H : Hp) (C : Addr) (cll : List (Str × Addr)) (fp : List Addr), PTs (X.blk s H scope (compEnvC scope cll C X.env) fp) ifs (tT X.K cl own tt))
    (he : ∀ (s : Shared) (H : Hp) (C : Addr) (cll : List (Str × Addr)) (fp : List Addr), PE (X.blk s H scope (compEnvC scope cll C X.env) fp) elt (tE X.K cl own false te))
    (hs : okShape iter = true) (hv : ∀ i ∈ Tg.slots t, i ∈ ow.map (·.2)) :
    PE X (.ListComp elt [⟨tg, iter, ifs, 0⟩] scope pos) (tN1 X.K cl own fun δ => do
      let items ← itf δ
      let l ← compL (compF t (ow.map (·.2)) tt te δ) items
      if items.length < line then pure (.lst l) else M.no) :=
  (pe_lc hc hN hi ok hg ht he (shape_fold hs _)).imp fun σ H Q ⟨ω, δ, S, s, q⟩ => lc_ok hv s q
end
end RF
end
section
set_option linter.all false
set_option maxRecDepth 100000
set_option maxHeartbeats 4000000
set_option autoImplicit false
/-! RfSnd11: expressions that give something new; statements. -/
namespace RF
open PySem PySem.Spec L2
open PyProof.Rows hiding St
section
variable {K : PySem.W.Frag} {cl : Nat → Addr} {own : List Nat} {X : Cx} {a c e : Expr} {es : List Expr} {p pos p2 : Pos} {f g : En → M D} {gs : En → M (List D)} {t : En → M Bool} {b : Bool}
theorem rn_lst (ha : PA X es (tA K cl own false gs)) : PE X (.List es pos) (tN1 K cl own fun δ => do
    let ds ← gs δ
    if ds.length ≤ 1000 then pure (.lst ds) else M.no) := by
  refine (pe_lst ha).imp fun σ H Q ⟨ω, δ, S, s, q⟩ => ⟨ω, δ, S, s, nG_bind q fun ω1 vs H1 ds S1 g1 s1 r1 q1 => ?_⟩
  by_cases hz : ds.length ≤ 1000
  · rw [if_pos hz] at q1
    exact ⟨l1000 (by rw [r1.len]; exact hz), fun p hp => nG.mk q1 s1 hp ⟨vs, upd_same, r1.l.plus hp⟩⟩
  · rw [if_neg hz] at q1
    exact q1.elim
theorem rn_dnew : PE X (.Dict [] [] pos) (tN1 K cl own fun _ => pure (.dct [])) :=
  pe_dnewK.imp fun σ H Q ⟨ω, δ, S, s, q⟩ p hp => nG.mk q s hp ⟨[], upd_same, RepK.nil⟩
theorem rn_ite (hc : PT X c (tT K cl own t)) (ha : PE X a (tN1 K cl own f)) (he : PE X e (tN1 K cl own g)) : PE X (.IfExp c a e pos) (tN1 K cl own fun δ => do if ← t δ then f δ else g δ) := by
  refine (pe_ifExp hc ha he).imp fun σ H Q ⟨ω, δ, S, s, q⟩ => ?_
  refine ⟨ω, δ, S, s, nG_bind q fun ω1 v H1 x S1 g1 s1 r1 q1 => ?_⟩
  subst r1
  cases v with
  | true => exact ⟨ω1, δ, S1, s1, q1⟩
  | false => exact ⟨ω1, δ, S1, s1, q1⟩
/-- x + y of lists -/
theorem rn_add (ha : PE X a (tE X.K cl own true f)) (hc : PE X c (tE X.K cl own true g)) : PE X (.BinOp a .Add c pos) (tN1 X.K cl own fun δ => do
    let x ← f δ
    let y ← g δ
    addNF x y) := by
  refine (pe_op op_cat ha hc).imp fun σ H Q ⟨ω, δ, S, s, q⟩ => ?_
  refine ⟨ω, δ, S, s, nG_bind q fun ω1 v H1 x S1 g1 s1 r1 q1 => ?_⟩
  refine ⟨ω1, δ, S1, s1, nG_bind q1 fun ω2 u H2 y S2 g2 s2 r2 q2 => ?_⟩
  have r1' : RepB X.K cl ω2 H2 v x := RepB.go r1 g2 s1.wok
  cases x with
  | lst x =>
    cases y with
    | lst y =>
      obtain ⟨l, xs, rfl, hl, rl⟩ := r1'.lstH
      obtain ⟨m, ys, rfl, hm, rm⟩ := RepB.lstH r2
      simp only [addNF] at q2
      by_cases hz : x.length + y.length ≤ line
      · simp only [if_pos hz] at q2
        exact ⟨l, m, xs, ys, rfl, rfl, hl, hm, by rw [rl.1, rm.1, ← line_eq]; exact hz, fun p hp => nG.mk q2 s2 hp ⟨_, upd_same, (rl.append rm).plus hp⟩⟩
      · simp only [if_neg hz] at q2
        exact q2.elim
    | _ => exact q2.elim
  | _ => exact q2.elim
/-- [..] * n -/
theorem rn_mul (ha : PE X a (tE X.K cl own true f)) (hc : PE X c (tE X.K cl own true g)) : PE X (.BinOp a .Mult c pos) (tN1 X.K cl own fun δ => do
    let x ← f δ
    let y ← g δ
    mulNF x y) := by
  refine (pe_op op_rep ha hc).imp fun σ H Q ⟨ω, δ, S, s, q⟩ => ?_
  refine ⟨ω, δ, S, s, nG_bind q fun ω1 v H1 x S1 g1 s1 r1 q1 => ?_⟩
  refine ⟨ω1, δ, S1, s1, nG_bind q1 fun ω2 u H2 y S2 g2 s2 r2 q2 => ?_⟩
  have r1' : RepB X.K cl ω2 H2 v x := RepB.go r1 g2 s1.wok
  cases x with
  | lst x =>
    cases y with
    | int k =>
      obtain ⟨l, xs, rfl, hl, rl⟩ := r1'.lstH
      simp only [mulNF] at q2
      by_cases hz : x.length * k.toNat ≤ 1000000 ∧ k < 1000000 ∧ -1000000 < k
      · simp only [if_pos hz] at q2
        have hrep : ∀ n : Nat, RepL X.K cl ω2 H2 (List.replicate n xs).flatten (List.replicate n x).flatten := fun n => by
          induction n with
          | zero => exact RepL.nil
          | succ n ih =>
            rw [List.replicate_succ, List.replicate_succ, List.flatten_cons, List.flatten_cons]
            exact rl.append ih
        have hl2 : xs.length * k.toNat ≤ sizeLine := by
          rw [rl.1, ← line_eq]
          exact Nat.le_trans hz.1 (by decide)
        exact ⟨l, k, xs, rfl, RepB.int r2, hl, by omega, by omega, hl2, fun p hp => nG.mk q2 s2 hp ⟨_, upd_same, (hrep _).plus hp⟩⟩
      · simp only [if_neg hz] at q2
        exact q2.elim
    | _ => exact q2.elim
  | _ => exact q2.elim
/-- builtins that answer with something new -/
def newBi : Bi → Bool
  | .list | .dict | .sorted => true
  | _ => false
theorem bi_new {ω : Wd} {H : Hp} {σ : L2.St} {δ : En} {S : Sto} {Q : VK} {B : Bi} {ds : List D} {vs : List V} (s : SR K cl own ω σ H δ S) (r : RepFL K cl true ω H vs ds) (q : nG K cl own ω H σ δ Q (biD B ds S)) (hB : newBi B = true) : rBi K B vs H Q := by
  cases B with
  | sorted =>
    match ds, r, q with
    | [d], r, q =>
      obtain ⟨v, rfl, rv⟩ := one_of r
      cases d with
      | lst l =>
        obtain ⟨a, vs, rfl, ha, ra⟩ := rv.seqL
        simp only [biD] at q
        cases e : strsOf l with
        | none => rw [e] at q; exact q.elim
        | some xs =>
          rw [e] at q
          by_cases hz : xs.length < 64
          · simp only [if_pos hz] at q
            obtain rfl := rep_strs ra e
            refine .inl ⟨a, xs, rfl, ha, hz, fun ys p hp hs hn => ?_⟩
            obtain rfl := sortedS_eq hp hs
            exact nG.mk q s hn ⟨_, upd_same, (repL_strs _).plus hn⟩
          · simp only [if_neg hz] at q
            exact q.elim
      | tup l =>
        obtain ⟨a, vs, rfl, ha, ra⟩ := rv.tup.seqT
        simp only [biD] at q
        cases e : strsOf l with
        | none => rw [e] at q; exact q.elim
        | some xs =>
          rw [e] at q
          by_cases hz : xs.length < 64
          · simp only [if_pos hz] at q
            obtain rfl := rep_strs ra e
            refine .inr ⟨a, xs, rfl, ha, hz, fun ys p hp hs hn => ?_⟩
            obtain rfl := sortedS_eq hp hs
            exact nG.mk q s hn ⟨_, upd_same, (repL_strs _).plus hn⟩
          · simp only [if_neg hz] at q
            exact q.elim
      | _ => exact q.elim
    | [], _, q => exact q.elim
    | d :: e :: l, _, q => cases d <;> first | exact q.elim | (cases e <;> exact q.elim)
  | list =>
    match ds, r, q with
    | [d], r, q =>
      obtain ⟨v, rfl, rv⟩ := one_of r
      cases d with
      | tup l =>
        obtain ⟨a, vs, rfl, ha, ra⟩ := rv.tup.seqT
        exact .inl ⟨a, vs, rfl, .inr ha, fun p hp => nG.mk q s hp ⟨_, upd_same, ra.plus hp⟩⟩
      | lst l =>
        obtain ⟨a, vs, rfl, ha, ra⟩ := rv.seqL
        exact .inl ⟨a, vs, rfl, .inl ha, fun p hp => nG.mk q s hp ⟨_, upd_same, ra.plus hp⟩⟩
      | str z =>
        simp only [biD] at q
        by_cases hz : z.length ≤ line
        · simp only [if_pos hz] at q
          obtain rfl := rv.str
          refine .inr ⟨z, rfl, by rw [← line_eq]; exact hz, fun p hp => nG.mk q s hp ⟨_, upd_same, (repL_signs _).plus hp⟩⟩
        · simp only [if_neg hz] at q
          exact q.elim
      | _ => exact q.elim
    | [], _, q => exact q.elim
    | d :: e :: l, _, q => cases d <;> first | exact q.elim | (cases e <;> exact q.elim)
  | dict =>
    match ds, r, q with
    | [d], r, q =>
      obtain ⟨v, rfl, rv⟩ := one_of r
      cases d with
      | dct l =>
        obtain ⟨a, vs, rfl, ha, ra⟩ := rv.dctH
        exact .inl ⟨a, vs, rfl, ha, fun p hp => nG.mk q s hp ⟨_, upd_same, ra.plus hp⟩⟩
      | lst l =>
        obtain ⟨a, vs, rfl, ha, ra⟩ := rv.seqL
        simp only [biD] at q
        cases e : pairsOf l with
        | none => rw [e] at q; exact q.elim
        | some m =>
          rw [e] at q
          by_cases hz : m.length ≤ line
          · simp only [if_pos hz] at q
            obtain ⟨ps, kvs, rfl, h2, h3⟩ := rep_pairs ra e
            exact .inr (.inl ⟨a, ps, kvs, rfl, ha, h2, fun p hp => nG.mk q s hp ⟨_, upd_same, (rep_merge h3 RepK.nil).plus hp⟩⟩)
          · simp only [if_neg hz] at q
            exact q.elim
      | tup l =>
        obtain ⟨a, vs, rfl, ha, ra⟩ := rv.tup.ptu
        simp only [biD] at q
        cases e : pairsOf l with
        | none => rw [e] at q; exact q.elim
        | some m =>
          rw [e] at q
          by_cases hz : m.length ≤ line
          · simp only [if_pos hz] at q
            obtain ⟨ps, kvs, rfl, h2, h3⟩ := rep_pairs ra e
            exact .inr (.inr ⟨a, ps, kvs, rfl, ha, h2, fun p hp => nG.mk q s hp ⟨_, upd_same, (rep_merge h3 RepK.nil).plus hp⟩⟩)
          · simp only [if_neg hz] at q
            exact q.elim
      | _ => exact q.elim
    | [], _, q => exact q.elim
    | d :: e :: l, _, q => cases d <;> first | exact q.elim | (cases e <;> exact q.elim)
  | _ => cases hB
theorem rn_bi {x : Str} {B : Bi} {k : Nat} (hr : Room k X.A) (hcalm : X.calm = true) (gd : X.A.guards = some []) (hx : x = biNm B) (hg : Gl X x) (hm : X.mg x = none) (ha : PA X (e :: es) (tA X.K cl own true gs)) (hs : okShape e = true) (hs2 : es.all okShape = true) (hB : newBi B = true) : PE X (.Call (.Name x p) (e :: es) [] pos) (tN1 X.K cl own fun δ => do biD B (← gs δ)) := by
  refine (pe_bi B hx (op_bi hcalm (hu_cmp hr) gd B) hg hm ha hs hs2).imp fun σ H Q ⟨ω, δ, S, s, q⟩ => ⟨ω, δ, S, s, ?_⟩
  dsimp only at q
  rw [M.bind_run] at q
  cases e : gs δ S with
  | exc _ _ => rw [e] at q; exact q.elim
  | no => rw [e] at q; exact q.elim
  | ok ds S1 =>
    rw [e] at q
    intro ω1 vs H1 g1 s1 r1
    exact bi_new s1 r1 (nG.go q g1 s1.wok) hB
/-- a slice of a list -/
theorem rn_cut {lo hi : Option Expr} {tl th : En → M (Option Int)} (he : PE X e (tE X.K cl own true f)) (hl : PO X lo (tO X.K cl own tl)) (hh : PO X hi (tO X.K cl own th)) : PE X (.Subscript e (.Slice lo hi none p2) pos) (tN1 X.K cl own fun δ => do
    let x ← f δ
    let l ← tl δ
    let h ← th δ
    cutNF x l h) := by
  refine (pe_slice sl_list he hl hh).imp fun σ H Q ⟨ω, δ, S, s, q⟩ => ⟨ω, δ, S, s, nG_bind q fun ω1 v H1 x S1 g1 s1 r1 q1 => ?_⟩
  refine ⟨ω1, δ, S1, s1, nG_bind q1 fun ω2 l H2 l' S2 g2 s2 r2 q2 => ?_⟩
  refine ⟨ω2, δ, S2, s2, nG_bind q2 fun ω3 h H3 h' S3 g3 s3 r3 q3 => ?_⟩
  subst r2
  subst r3
  have r : RepB X.K cl ω3 H3 v x := RepB.go (RepB.go r1 g2 s1.wok) g3 s2.wok
  cases x with
  | lst ds =>
    obtain ⟨q, vs, rfl, hq, rq⟩ := r.seqL
    exact ⟨q, vs, rfl, hq, fun p hp => nG.mk q3 s3 hp ⟨_, upd_same, (cut_rep rq _ _).plus hp⟩⟩
  | frz ds =>
    obtain ⟨q, vs, rfl, hq, rq⟩ := r.seqF
    exact ⟨q, vs, rfl, hq, fun p hp => nG.mk q3 s3 hp ⟨_, upd_same, (cut_rep rq _ _).plus hp⟩⟩
  | _ => exact q3.elim
end
/-! ### several values, some of them new -/
section
variable (K : PySem.W.Frag) (cl : Nat → Addr) (own : List Nat)
inductive NewL (ω : Wd) (H : Hp) : List Bool → List V → List D → List Addr → Prop
  | nil : NewL ω H [] [] [] []
  | giv {ks : List Bool} {v : V} {vs : List V} {d : D} {ds : List D} {as : List Addr} (r : Rep K cl ω H v d) (t : NewL ω H ks vs ds as) : NewL ω H (false :: ks) (v :: vs) (d :: ds) as
  | own {ks : List Bool} {a : Addr} {vs : List V} {d : D} {ds : List D} {as : List Addr} (o : Own K cl ω H a d) (t : NewL ω H ks vs ds as) : NewL ω H (true :: ks) (.ref a :: vs) (d :: ds) (a :: as)
def tN (ks : List Bool) (f : En → M (List D)) : TA := fun σ H Q => ∃ ω δ S, SR K cl own ω σ H δ S ∧ (match f δ S with
  | .ok ds S' => ∀ ω' vs as H', NewAt ω H ω' H' as → SR K cl own ω' σ H' δ S' → NewL K cl ω' H' ks vs ds as → Q vs H'
  | _ => False)
end
section
variable {K : PySem.W.Frag} {cl : Nat → Addr} {own : List Nat} {X : Cx} {a c e : Expr} {es : List Expr} {p pos p2 : Pos} {f g : En → M D} {gs : En → M (List D)} {ks : List Bool}
theorem na_nil : PA X [] (tN K cl own [] fun _ => pure []) := pa_nil.imp fun σ H Q ⟨ω, δ, S, s, q⟩ => q ω [] [] H (NewAt.of (Go.refl _ _)) s .nil
theorem na_giv (he : PE X e (tE K cl own false f)) (hr : PA X es (tN K cl own ks gs)) (hs : okShape e = true) : PA X (e :: es) (tN K cl own (false :: ks) fun δ => do
    let x ← f δ
    let l ← gs δ
    pure (x :: l)) := by
  refine (pa_cons he hr (shape_star hs)).imp fun σ H Q ⟨ω, δ, S, s, q⟩ => ⟨ω, δ, S, s, ?_⟩
  dsimp only at q
  rw [M.bind_run] at q
  cases e1 : f δ S with
  | exc _ _ => rw [e1] at q; exact q.elim
  | no => rw [e1] at q; exact q.elim
  | ok d S1 =>
    rw [e1] at q
    dsimp only at q
    rw [M.bind_run] at q
    intro ω1 v H1 g1 s1 r1
    refine ⟨ω1, δ, S1, s1, ?_⟩
    cases e2 : gs δ S1 with
    | exc _ _ => rw [e2] at q; exact q.elim
    | no => rw [e2] at q; exact q.elim
    | ok ds S2 =>
      rw [e2] at q
      intro ω2 vs as H2 n2 s2 r2
      exact q ω2 (v :: vs) as H2 (n2.before g1 s1.wok) s2 (.giv (Rep.go r1 n2.st) r2)
theorem na_own (he : PE X e (tN1 K cl own f)) (hr : PA X es (tN K cl own ks gs)) (hs : okShape e = true) : PA X (e :: es) (tN K cl own (true :: ks) fun δ => do
    let x ← f δ
    let l ← gs δ
    pure (x :: l)) := by
  refine (pa_cons he hr (shape_star hs)).imp fun σ H Q ⟨ω, δ, S, s, q⟩ => ⟨ω, δ, S, s, ?_⟩
  dsimp only at q
  rw [M.bind_run] at q
  cases e1 : f δ S with
  | exc _ _ => rw [e1] at q; exact q.elim
  | no => rw [e1] at q; exact q.elim
  | ok d S1 =>
    rw [e1] at q
    dsimp only at q
    rw [M.bind_run] at q
    intro ω1 a H1 n1 s1 o1
    refine ⟨ω1, δ, S1, s1, ?_⟩
    cases e2 : gs δ S1 with
    | exc _ _ => rw [e2] at q; exact q.elim
    | no => rw [e2] at q; exact q.elim
    | ok ds S2 =>
      rw [e2] at q
      intro ω2 vs as H2 n2 s2 r2
      refine q ω2 (.ref a :: vs) (a :: as) H2 (n1.trans n2 s1.wok) s2 (.own (o1.go n2.st ?_) r2)
      have ha := s1.wok.av a ((n1.av a).mpr (.inr (by simp)))
      cases h : H1 a with
      | none => exact absurd h ha.1
      | some o => exact n2.st.keep a o h ha.2 fun _ z => nomatch z
end
/-! ### statements -/
section
variable (K : PySem.W.Frag) (cl : Nat → Addr) (own : List Nat)
/-- how a run of a statement is to end -/
def sG (nw : Bool) (Mu : List Nat) (ω : Wd) (H : Hp) (Dn : Ends) : Out Fl → Prop
  | .ok (.nx δ') S' => ∀ ω' σ' H', GoS Mu ω H ω' H' → ω'.av = ω.av → SR K cl own ω' σ' H' δ' S' → Dn.nx σ' H'
  | .ok (.bk δ') S' => ∀ ω' σ' H', GoS Mu ω H ω' H' → ω'.av = ω.av → SR K cl own ω' σ' H' δ' S' → Dn.bk σ' H'
  | .ok (.rt d) S' => (match nw with
    | false => ∀ ω' v H', GoS Mu ω H ω' H' → ω'.av = ω.av → ω'.ow = (fun _ => none) → WOk ω' H' → StoOk K cl ω' H' S' → Rep K cl ω' H' v d → Dn.rt v H'
    | true => ∀ ω' a H', GoS Mu ω H ω' H' → (H a = none ∨ ∃ i, ω.ow i = some a) → (∀ b, ω'.av b ↔ ω.av b ∨ b = a) → ω'.ow = (fun _ => none) → WOk ω' H' → StoOk K cl ω' H' S' → Own K cl ω' H' a d → Dn.rt (.ref a) H')
  | _ => False
def tS (nw : Bool) (Mu : List Nat) (f : En → M Fl) : TS := fun Dn σ H => ∃ ω δ S, SR K cl own ω σ H δ S ∧ sG K cl own nw Mu ω H Dn (f δ S)
end
section
variable {K : PySem.W.Frag} {cl : Nat → Addr} {own : List Nat} {nw : Bool} {Mu : List Nat} {ω ω' ω1 : Wd} {H H' H1 : Hp} {σ σ' : L2.St} {δ δ' : En} {S S' : Sto} {v : V} {d : D} {Dn : Ends}
theorem sG.go {x : Out Fl} (h : sG K cl own nw Mu ω H Dn x) (g : GoS Mu ω H ω1 H1) (ea : ω1.av = ω.av) : sG K cl own nw Mu ω1 H1 Dn x := by
  cases x with
  | ok a s =>
    cases a with
    | nx δ' => exact fun ω' σ' H' g' e' => h ω' σ' H' (g.trans g') (e'.trans ea)
    | bk δ' => exact fun ω' σ' H' g' e' => h ω' σ' H' (g.trans g') (e'.trans ea)
    | rt d => cases nw with
      | false => exact fun ω' v H' g' e' => h ω' v H' (g.trans g') (e'.trans ea)
      | true => exact fun ω' a H' g' n' e' => h ω' a H' (g.trans g') (n'.elim (fun z => .inl (none_of_dom g z)) fun ⟨i, z⟩ => (g.own i a z).elim (fun y => .inr ⟨i, y⟩) .inl) fun b => by rw [e', ea]
  | exc e s => exact h.elim
  | no => exact h.elim
theorem sG.mono {Mv : List Nat} {x : Out Fl} (h : sG K cl own nw Mv ω H Dn x) (m : ∀ i ∈ Mu, i ∈ Mv) : sG K cl own nw Mu ω H Dn x := by
  cases x with
  | ok a s =>
    cases a with
    | nx δ' => exact fun ω' σ' H' g' => h ω' σ' H' (g'.mono m)
    | bk δ' => exact fun ω' σ' H' g' => h ω' σ' H' (g'.mono m)
    | rt d => cases nw with
      | false => exact fun ω' v H' g' => h ω' v H' (g'.mono m)
      | true => exact fun ω' a H' g' => h ω' a H' (g'.mono m)
  | exc e s => exact h.elim
  | no => exact h.elim
theorem sG_bind {α γ : Type} {R : Wd → Hp → γ → α → Prop} {f : M α} {k : α → M Fl} {T : γ → Hp → Prop} (h : sG K cl own nw Mu ω H Dn ((f >>= k) S))
    (hk : ∀ (ω' : Wd) (g : γ) (H' : Hp) (a : α) (S' : Sto), Go ω H ω' H' → SR K cl own ω' σ H' δ S' → R ω' H' g a → sG K cl own nw Mu ω' H' Dn (k a S') → T g H') : pG K cl own R ω H σ δ T (f S) := by
  rw [M.bind_run] at h
  cases e : f S with
  | ok a s =>
    rw [e] at h
    exact fun ω' g H' go sr r => hk ω' g H' a s go sr r (sG.go h (go.s Mu) go.ea)
  | exc x s => rw [e] at h; exact h.elim
  | no => rw [e] at h; exact h.elim
/-- nothing more happens here -/
theorem sG.nx (h : sG K cl own nw Mu ω H Dn (.ok (.nx δ) S)) (s : SR K cl own ω σ H δ S) : Dn.nx σ H := h ω σ H (GoS.refl _ _ _) rfl s
theorem PS.mono {X : Cx} {st : Stmt} {Mv : List Nat} {f : En → M Fl} (h : PS X st (tS K cl own nw Mu f)) (m : ∀ i ∈ Mu, i ∈ Mv) : PS X st (tS K cl own nw Mv f) :=
  h.imp fun D σ H ⟨ω, δ, S, s, q⟩ => ⟨ω, δ, S, s, q.mono m⟩
end
end RF
end
section
set_option linter.all false
set_option maxRecDepth 100000
set_option maxHeartbeats 4000000
set_option autoImplicit false
/-! RfSnd12: statements, their rules. -/
namespace RF
open PySem PySem.Spec L2
open PyProof.Rows hiding St
/-! ### worlds: an own slot takes a new thing, the store takes one -/
section
variable {K : PySem.W.Frag} {cl : Nat → Addr} {own : List Nat} {nw : Bool} {Mu : List Nat} {ω ω' ω1 : Wd} {H H' H1 : Hp} {σ σ' : L2.St} {δ δ' : En} {S S' : Sto} {v : V} {d : D} {Dn : Ends} {a : Addr} {i : Nat}
abbrev Wd.take (ω : Wd) (i : Nat) (a : Addr) : Wd := { rho := ω.rho, ow := fun j => if j = i then some a else ω.ow j, av := fun b => ω.av b ∧ b ≠ a }
abbrev Wd.sto (ω : Wd) (a : Addr) : Wd := { rho := ω.rho ++ [a], ow := ω.ow, av := fun b => ω.av b ∧ b ≠ a }
theorem Wd.take_bar (ha : ω.av a) {b : Addr} (z : (ω.take i a).bar b) : ω.bar b := by
  rcases z with z | ⟨j, z⟩ | z
  · exact .inl z
  · have z' : (if j = i then some a else ω.ow j) = some b := z
    by_cases e : j = i
    · rw [if_pos e] at z'
      cases z'
      exact .inr (.inr ha)
    · rw [if_neg e] at z'
      exact .inr (.inl ⟨j, z'⟩)
  · exact .inr (.inr z.1)
theorem Wd.sto_bar (ha : ω.av a) {b : Addr} (z : (ω.sto a).bar b) : ω.bar b := by
  rcases z with z | z | z
  · rcases List.mem_append.mp z with z | z
    · exact .inl z
    · have : b = a := by simpa using z
      exact .inr (.inr (this ▸ ha))
  · exact .inr (.inl z)
  · exact .inr (.inr z.1)
theorem WOk.take (k : WOk ω H) (ha : ω.av a) (i : Nat) : WOk (ω.take i a) H := by
  have hA := k.av a ha
  refine ⟨k.nd, k.rho, fun j b z => ?_, fun j l b z y => ?_, fun b z => k.av b z.1⟩
  · have z' : (if j = i then some a else ω.ow j) = some b := z
    by_cases e : j = i
    · rw [if_pos e] at z'
      cases z'
      exact ⟨hA.1, hA.2, fun y => y.2 rfl⟩
    · rw [if_neg e] at z'
      have := k.ow j b z'
      exact ⟨this.1, this.2.1, fun y => this.2.2 y.1⟩
  · have z' : (if j = i then some a else ω.ow j) = some b := z
    have y' : (if l = i then some a else ω.ow l) = some b := y
    by_cases e : j = i
    · by_cases e' : l = i
      · rw [e, e']
      · rw [if_pos e] at z'; cases z'
        rw [if_neg e'] at y'
        exact absurd ha (k.ow l a y').2.2
    · by_cases e' : l = i
      · rw [if_pos e'] at y'; cases y'
        rw [if_neg e] at z'
        exact absurd ha (k.ow j a z').2.2
      · rw [if_neg e] at z'; rw [if_neg e'] at y'
        exact k.inj j l b z' y'
theorem SR.setOwn (s : SR K cl own ω σ H δ S) (ha : ω.av a) (o : Own K cl ω H a d) (hi : i ∈ own) (hl : i < δ.length) : SR K cl own (ω.take i a) (σ.set i (some (.ref a))) H (δ.set i (some d)) S := by
  have hl2 : i < σ.length := by rw [s.len]; exact hl
  have hb : ∀ b, (ω.take i a).bar b → ω.bar b := fun b z => Wd.take_bar ha z
  refine ⟨by simp [s.len], s.wok.take ha i, fun j e h1 h2 => ?_, fun j e h1 h2 => ?_, ⟨s.sto.len, fun n b e h1 h2 => (s.sto.obj n b e h1 h2).as rfl hb⟩⟩
  · have z : i ≠ j := fun y => h2 (y ▸ hi)
    rw [List.getElem?_set_ne z] at h1
    rw [List.getElem?_set_ne z]
    obtain ⟨v, q, r⟩ := s.slot j e h1 h2
    exact ⟨v, q, r.as rfl hb⟩
  · by_cases z : i = j
    · subst z
      rw [List.getElem?_set_self hl] at h1
      cases h1
      exact .inl ⟨a, by rw [List.getElem?_set_self hl2], by simp, o.as rfl hb⟩
    · rw [List.getElem?_set_ne z] at h1
      rw [List.getElem?_set_ne z]
      rcases s.osl j e h1 h2 with ⟨b, q, y, x⟩ | ⟨hm, v, q, r⟩
      · exact .inl ⟨b, q, by simp [Ne.symm z, y], x.as rfl hb⟩
      · exact .inr ⟨hm, v, q, r.as rfl hb⟩
theorem SR.setImm (s : SR K cl own ω σ H δ S) (r : Rep K cl ω H v d) (hm : d.imm = true) (hi : i ∈ own) (hl : i < δ.length) : SR K cl own ω (σ.set i (some v)) H (δ.set i (some d)) S := by
  have hl2 : i < σ.length := by rw [s.len]; exact hl
  refine ⟨by simp [s.len], s.wok, fun j e h1 h2 => ?_, fun j e h1 h2 => ?_, s.sto⟩
  · have z : i ≠ j := fun y => h2 (y ▸ hi)
    rw [List.getElem?_set_ne z] at h1
    rw [List.getElem?_set_ne z]
    exact s.slot j e h1 h2
  · by_cases z : i = j
    · subst z
      rw [List.getElem?_set_self hl] at h1
      cases h1
      exact .inr ⟨hm, v, by rw [List.getElem?_set_self hl2], r⟩
    · rw [List.getElem?_set_ne z] at h1
      rw [List.getElem?_set_ne z]
      exact s.osl j e h1 h2
theorem Rep.as' (r : Rep K cl ω H v d) (e1 : ∀ (n : Nat) (a : Addr), ω.rho[n]? = some a → ω'.rho[n]? = some a) (e2 : ∀ a, ω'.bar a → ω.bar a) : Rep K cl ω' H v d := by
  induction r with
  | non => exact .non
  | bl b => exact .bl b
  | int i => exact .int i
  | str x => exact .str x
  | tup h l e ih => exact .tup h l ih
  | lst h n l e ih => exact .lst h (fun z => n (e2 _ z)) l ih
  | dct h n l ek e ih => exact .dct h (fun z => n (e2 _ z)) l ek ih
  | ins h n l ek e ih => exact .ins h (fun z => n (e2 _ z)) l ek ih
  | obj h => exact .obj (e1 _ _ h)
  | frz h l e ih => exact .frz (h.imp (fun ⟨o, q, n⟩ => ⟨o, q, fun z => n (e2 _ z)⟩) id) l ih
theorem Own.as' (r : Own K cl ω H a d) (e1 : ∀ (n : Nat) (a : Addr), ω.rho[n]? = some a → ω'.rho[n]? = some a) (e2 : ∀ b, ω'.bar b → ω.bar b) : Own K cl ω' H a d := by
  cases d with
  | lst ds => obtain ⟨vs, q, r⟩ := r; exact ⟨vs, q, r.1, fun i v d h1 h2 => (r.2 i v d h1 h2).as' e1 e2⟩
  | dct ds => obtain ⟨vs, q, r⟩ := r; exact ⟨vs, q, r.1, fun i k v q d h1 h2 => ⟨(r.2 i k v q d h1 h2).1, (r.2 i k v q d h1 h2).2.as' e1 e2⟩⟩
  | ins c gs => obtain ⟨dx, fs, q, r⟩ := r; exact ⟨dx, fs, q, r.1, fun i k v q d h1 h2 => ⟨(r.2 i k v q d h1 h2).1, (r.2 i k v q d h1 h2).2.as' e1 e2⟩⟩
  | _ => exact r.elim
theorem sto_pre (n : Nat) (b : Addr) (h : ω.rho[n]? = some b) : (ω.sto a).rho[n]? = some b := by
  have hn : n < ω.rho.length := by
    rcases Nat.lt_or_ge n ω.rho.length with z | z
    · exact z
    · rw [List.getElem?_eq_none z] at h; cases h
  show (ω.rho ++ [a])[n]? = some b
  rw [List.getElem?_append_left hn]
  exact h
theorem SR.mkSto (s : SR K cl own ω σ H δ S) (ha : ω.av a) (o : Own K cl ω H a d) (hi : i ∉ own) (hl : i < δ.length) : SR K cl own (ω.sto a) (σ.set i (some (.ref a))) H (δ.set i (some (.obj S.length))) (S ++ [d]) := by
  have hA := s.wok.av a ha
  have hb : ∀ b, (ω.sto a).bar b → ω.bar b := fun b z => Wd.sto_bar ha z
  have hl2 : i < σ.length := by rw [s.len]; exact hl
  have wok : WOk (ω.sto a) H := by
    refine ⟨?_, fun b z => ?_, fun j b z => ?_, s.wok.inj, fun b z => ⟨(s.wok.av b z.1).1, fun y => ?_⟩⟩
    · exact List.nodup_append.mpr ⟨s.wok.nd, by simp, fun x hx y hy e => by
        have : y = a := by simpa using hy
        subst this; subst e
        exact hA.2 hx⟩
    · rcases List.mem_append.mp z with z | z
      · exact s.wok.rho b z
      · have : b = a := by simpa using z
        rw [this]; exact hA.1
    · have h := s.wok.ow j b z
      refine ⟨h.1, fun y => ?_, fun y => h.2.2 y.1⟩
      rcases List.mem_append.mp y with y | y
      · exact h.2.1 y
      · have : b = a := by simpa using y
        exact h.2.2 (this ▸ ha)
    · rcases List.mem_append.mp y with y | y
      · exact (s.wok.av b z.1).2 y
      · exact z.2 (by simpa using y)
  refine ⟨by simp [s.len], wok, fun j e h1 h2 => ?_, fun j e h1 h2 => ?_, ⟨by simp [s.sto.len], fun n b e h1 h2 => ?_⟩⟩
  · by_cases z : i = j
    · subst z
      rw [List.getElem?_set_self hl] at h1
      cases h1
      refine ⟨.ref a, by rw [List.getElem?_set_self hl2], .obj ?_⟩
      show (ω.rho ++ [a])[S.length]? = some a
      rw [← s.sto.len, List.getElem?_append_right (Nat.le_refl _)]
      simp
    · rw [List.getElem?_set_ne z] at h1
      rw [List.getElem?_set_ne z]
      obtain ⟨v, q, r⟩ := s.slot j e h1 h2
      exact ⟨v, q, r.as' sto_pre hb⟩
  · have z : i ≠ j := fun y => hi (y ▸ h2)
    rw [List.getElem?_set_ne z] at h1
    rw [List.getElem?_set_ne z]
    rcases s.osl j e h1 h2 with ⟨b, q, y, x⟩ | ⟨hm, v, q, r⟩
    · exact .inl ⟨b, q, y, x.as' sto_pre hb⟩
    · exact .inr ⟨hm, v, q, r.as' sto_pre hb⟩
  · have h1' : (ω.rho ++ [a])[n]? = some b := h1
    by_cases hn : n < ω.rho.length
    · rw [List.getElem?_append_left hn] at h1'
      rw [List.getElem?_append_left (by rw [← s.sto.len]; exact hn)] at h2
      exact (s.sto.obj n b e h1' h2).as' sto_pre hb
    · rw [List.getElem?_append_right (by omega)] at h1'
      rw [List.getElem?_append_right (by rw [← s.sto.len]; omega)] at h2
      have hn0 : n - ω.rho.length = 0 := by
        rcases Nat.eq_zero_or_pos (n - ω.rho.length) with z | z
        · exact z
        · rw [List.getElem?_eq_none (by simp; omega)] at h1'; cases h1'
      rw [hn0] at h1'
      rw [← s.sto.len, hn0] at h2
      simp at h1' h2
      subst h1'; subst h2
      exact o.as' sto_pre hb
/-- .. of no slot -/
theorem SR.sto1 (s : SR K cl own ω σ H δ S) (ha : ω.av a) (o : Own K cl ω H a d) : SR K cl own (ω.sto a) σ H δ (S ++ [d]) ∧ Rep K cl (ω.sto a) H (.ref a) (.obj S.length) := by
  have hA := s.wok.av a ha
  have hb : ∀ b, (ω.sto a).bar b → ω.bar b := fun b z => Wd.sto_bar ha z
  have wok : WOk (ω.sto a) H := by
    refine ⟨?_, fun b z => ?_, fun j b z => ?_, s.wok.inj, fun b z => ⟨(s.wok.av b z.1).1, fun y => ?_⟩⟩
    · exact List.nodup_append.mpr ⟨s.wok.nd, by simp, fun x hx y hy e => by
        have : y = a := by simpa using hy
        subst this; subst e
        exact hA.2 hx⟩
    · rcases List.mem_append.mp z with z | z
      · exact s.wok.rho b z
      · have : b = a := by simpa using z
        rw [this]; exact hA.1
    · have h := s.wok.ow j b z
      refine ⟨h.1, fun y => ?_, fun y => h.2.2 y.1⟩
      rcases List.mem_append.mp y with y | y
      · exact h.2.1 y
      · have : b = a := by simpa using y
        exact h.2.2 (this ▸ ha)
    · rcases List.mem_append.mp y with y | y
      · exact (s.wok.av b z.1).2 y
      · exact z.2 (by simpa using y)
  have hobj : (ω.rho ++ [a])[S.length]? = some a := by
    rw [← s.sto.len, List.getElem?_append_right (Nat.le_refl _)]
    simp
  refine ⟨⟨s.len, wok, fun j e h1 h2 => ?_, fun j e h1 h2 => ?_, ⟨by simp [s.sto.len], fun n b e h1 h2 => ?_⟩⟩, .obj hobj⟩
  · obtain ⟨v, q, r⟩ := s.slot j e h1 h2
    exact ⟨v, q, r.as' sto_pre hb⟩
  · rcases s.osl j e h1 h2 with ⟨b, q, y, x⟩ | ⟨hm, v, q, r⟩
    · exact .inl ⟨b, q, y, x.as' sto_pre hb⟩
    · exact .inr ⟨hm, v, q, r.as' sto_pre hb⟩
  · have h1' : (ω.rho ++ [a])[n]? = some b := h1
    by_cases hn : n < ω.rho.length
    · rw [List.getElem?_append_left hn] at h1'
      rw [List.getElem?_append_left (by rw [← s.sto.len]; exact hn)] at h2
      exact (s.sto.obj n b e h1' h2).as' sto_pre hb
    · rw [List.getElem?_append_right (by omega)] at h1'
      rw [List.getElem?_append_right (by rw [← s.sto.len]; omega)] at h2
      have hn0 : n - ω.rho.length = 0 := by
        rcases Nat.eq_zero_or_pos (n - ω.rho.length) with z | z
        · exact z
        · rw [List.getElem?_eq_none (by simp; omega)] at h1'; cases h1'
      rw [hn0] at h1'
      rw [← s.sto.len, hn0] at h2
      simp at h1' h2
      subst h1'; subst h2
      exact o.as' sto_pre hb
theorem NewAt.take (n : NewAt ω H ω' H' [a]) (k : WOk ω H) (Mu : List Nat) (i : Nat) : GoS Mu ω H (ω'.take i a) H' ∧ (ω'.take i a).av = ω.av := by
  have e : ∀ b, (ω'.av b ∧ b ≠ a) ↔ ω.av b := fun b => by
    rw [n.av]
    constructor
    · rintro ⟨z | z, y⟩
      · exact z
      · exact absurd (by simpa using z) y
    · exact fun z => ⟨.inl z, fun y => (k.av b z).1 (y ▸ n.new a (by simp))⟩
  have g := n.st.mono (M' := Mu) fun _ z => nomatch z
  refine ⟨⟨g.pre, g.keep, g.tup, g.new, fun j b z => ?_, fun b z => .inl ((e b).mp z), g.dom⟩, funext fun b => propext (e b)⟩
  have z' : (if j = i then some a else ω'.ow j) = some b := z
  by_cases y : j = i
  · rw [if_pos y] at z'
    cases z'
    exact .inr (n.new a (by simp))
  · rw [if_neg y] at z'
    exact g.own j b z'
theorem NewAt.sto (n : NewAt ω H ω' H' [a]) (k : WOk ω H) (Mu : List Nat) : GoS Mu ω H (ω'.sto a) H' ∧ (ω'.sto a).av = ω.av := by
  have e : ∀ b, (ω'.av b ∧ b ≠ a) ↔ ω.av b := fun b => by
    rw [n.av]
    constructor
    · rintro ⟨z | z, y⟩
      · exact z
      · exact absurd (by simpa using z) y
    · exact fun z => ⟨.inl z, fun y => (k.av b z).1 (y ▸ n.new a (by simp))⟩
  have g := n.st.mono (M' := Mu) fun _ z => nomatch z
  refine ⟨⟨fun m b z => sto_pre m b (g.pre m b z), g.keep, g.tup, fun b z y => ?_, g.own, fun b z => .inl ((e b).mp z), g.dom⟩, funext fun b => propext (e b)⟩
  intro x
  rcases List.mem_append.mp x with x | x
  · exact g.new b z y x
  · have : b = a := by simpa using x
    exact z (this ▸ n.new a (by simp))
/-- what an own slot holds is changed -/
theorem SR.chgOwn {o : HO} (s : SR K cl own ω σ H δ S) (hi : i ∈ own) (hv : σ[i]? = some (some (.ref a))) (hw : ω.ow i = some a) (ho : Own K cl ω (L2.upd H a o) a d) (hp : ∀ xs, ¬ Rd H a (.tup xs)) (hl : i < δ.length) :
    SR K cl own ω σ (L2.upd H a o) (δ.set i (some d)) S ∧ GoS [i] ω H ω (L2.upd H a o) := by
  have h1 := upd_bar (H := H) (o := o) (p := a) (ω := ω) (.inr (.inl ⟨i, hw⟩))
  have h2 : ∀ b xs, PTu K H b xs → PTu K (L2.upd H a o) b xs := fun b xs h => upd_ptu hp h
  refine ⟨⟨by simp [s.len], s.wok.dom upd_dom, fun j e q1 q2 => ?_, fun j e q1 q2 => ?_, ⟨s.sto.len, fun n b e q1 q2 => ?_⟩⟩, ⟨fun _ _ h => h, fun b u h n m => ?_, fun b xs h => ?_, fun _ _ h => h, fun _ _ h => .inl h, fun _ h => .inl h, upd_dom⟩⟩
  · have z : i ≠ j := fun y => q2 (y ▸ hi)
    rw [List.getElem?_set_ne z] at q1
    obtain ⟨v, q, r⟩ := s.slot j e q1 q2
    exact ⟨v, q, r.chg h1 h2⟩
  · by_cases z : i = j
    · subst z
      rw [List.getElem?_set_self hl] at q1
      cases q1
      exact .inl ⟨a, hv, hw, ho⟩
    · rw [List.getElem?_set_ne z] at q1
      rcases s.osl j e q1 q2 with ⟨b, q, y, x⟩ | ⟨hm, v, q, r⟩
      · exact .inl ⟨b, q, y, x.chg h1 h2 (upd_ne fun e => z (s.wok.inj i j a hw (e ▸ y)))⟩
      · exact .inr ⟨hm, v, q, r.chg h1 h2⟩
  · exact (s.sto.obj n b e q1 q2).chg h1 h2 (upd_ne fun e => (s.wok.ow i a hw).2.1 (e ▸ List.mem_of_getElem? q1))
  · rw [upd_ne (fun z => m i (by simp) (by rw [z]; exact hw))]
    exact h
  · obtain ⟨u, h, hd⟩ := h
    have hn : b ≠ a := fun z => hp xs (.inr ⟨u, z ▸ h⟩)
    exact ⟨u, by rw [upd_ne hn]; exact h, hd⟩
/-- a thing of the store is changed -/
theorem SR.chgSto {o : HO} {n : Nat} (s : SR K cl own ω σ H δ S) (hn : ω.rho[n]? = some a) (ho : Own K cl ω (L2.upd H a o) a d) (hp : ∀ xs, ¬ Rd H a (.tup xs)) (Mu : List Nat) :
    SR K cl own ω σ (L2.upd H a o) δ (S.set n d) ∧ GoS Mu ω H ω (L2.upd H a o) := by
  have hm := List.mem_of_getElem? hn
  have h1 := upd_bar (H := H) (o := o) (p := a) (ω := ω) (.inl hm)
  have h2 : ∀ b xs, PTu K H b xs → PTu K (L2.upd H a o) b xs := fun b xs h => upd_ptu hp h
  refine ⟨⟨s.len, s.wok.dom upd_dom, fun j e q1 q2 => ?_, fun j e q1 q2 => ?_, ⟨by simp [s.sto.len], fun m b e q1 q2 => ?_⟩⟩, ⟨fun _ _ h => h, fun b u h z _ => ?_, fun b xs h => ?_, fun _ _ h => h, fun _ _ h => .inl h, fun _ h => .inl h, upd_dom⟩⟩
  · obtain ⟨v, q, r⟩ := s.slot j e q1 q2
    exact ⟨v, q, r.chg h1 h2⟩
  · rcases s.osl j e q1 q2 with ⟨b, q, y, x⟩ | ⟨hm, v, q, r⟩
    · exact .inl ⟨b, q, y, x.chg h1 h2 (upd_ne fun e => (s.wok.ow j b y).2.1 (e ▸ hm))⟩
    · exact .inr ⟨hm, v, q, r.chg h1 h2⟩
  · by_cases z : n = m
    · subst z
      rw [hn] at q1
      cases q1
      rw [List.getElem?_set] at q2
      simp only [if_true] at q2
      split at q2
      · cases q2; exact ho
      · cases q2
    · rw [List.getElem?_set_ne z] at q2
      refine (s.sto.obj m b e q1 q2).chg h1 h2 (upd_ne fun e => z ?_)
      subst e
      have l1 : n < ω.rho.length := (List.getElem?_eq_some_iff.mp hn).1
      have l2 : m < ω.rho.length := (List.getElem?_eq_some_iff.mp q1).1
      exact (List.getElem?_inj l1 s.wok.nd).mp (hn.trans q1.symm)
  · rw [upd_ne (fun y => z (by rw [y]; exact hm))]
    exact h
  · obtain ⟨u, h, hd⟩ := h
    have hne : b ≠ a := fun z => hp xs (.inr ⟨u, z ▸ h⟩)
    exact ⟨u, by rw [upd_ne hne]; exact h, hd⟩
end
section
variable {K : PySem.W.Frag} {cl : Nat → Addr} {own : List Nat} {nw : Bool} {Mu : List Nat} {X : Cx} {a c e tg iter : Expr} {st : Stmt} {rest body orelse : List Stmt} {pos p : Pos} {f g : En → M D} {t : En → M Bool} {fs gs : En → M Fl} {ls : En → M (List D)} {T : Tg}
/-! ### blocks -/
theorem rss_nil : PSs X [] (tS K cl own nw Mu fun δ => pure (.nx δ)) := pss_nil.imp fun D σ H ⟨ω, δ, S, s, q⟩ => sG.nx q s
theorem rss_cons (h1 : PS X st (tS K cl own nw Mu fs)) (h2 : PSs X rest (tS K cl own nw Mu gs)) : PSs X (st :: rest) (tS K cl own nw Mu fun δ => do
    match ← fs δ with
    | .nx δ' => gs δ'
    | .bk δ' => pure (.bk δ')
    | .rt v => pure (.rt v)) := by
  refine (pss_cons h1 h2).imp fun D σ H ⟨ω, δ, S, s, q⟩ => ⟨ω, δ, S, s, ?_⟩
  dsimp only at q
  rw [M.bind_run] at q
  cases e : fs δ S with
  | exc _ _ => rw [e] at q; exact q.elim
  | no => rw [e] at q; exact q.elim
  | ok fl S1 =>
    rw [e] at q
    cases fl with
    | nx δ1 => exact fun ω1 σ1 H1 g1 e1 s1 => ⟨ω1, δ1, S1, s1, sG.go q g1 e1⟩
    | bk δ1 => exact q
    | rt d => exact q
theorem rs_if {b1 b2 : List Stmt} (hc : PT X c (tT K cl own t)) (ha : PSs X b1 (tS K cl own nw Mu fs)) (hb : PSs X b2 (tS K cl own nw Mu gs)) : PS X (.If c b1 b2 pos) (tS K cl own nw Mu fun δ => do if ← t δ then fs δ else gs δ) := by
  refine (ps_if hc ha hb).imp fun D σ H ⟨ω, δ, S, s, q⟩ => ⟨ω, δ, S, s, sG_bind q fun ω1 k H1 k' S1 g1 s1 r1 q1 => ?_⟩
  subst r1
  cases k with
  | true => exact ⟨ω1, δ, S1, s1, q1⟩
  | false => exact ⟨ω1, δ, S1, s1, q1⟩
theorem rs_pass : PS X (.Pass pos) (tS K cl own nw Mu fun δ => pure (.nx δ)) := ps_pass.imp fun D σ H ⟨ω, δ, S, s, q⟩ => sG.nx q s
theorem rs_break : PS X (.Break pos) (tS K cl own nw Mu fun δ => pure (.bk δ)) := ps_break.imp fun D σ H ⟨ω, δ, S, s, q⟩ => q ω σ H (GoS.refl _ _ _) rfl s
theorem rs_never : PS X st (tS K cl own nw Mu fun _ => M.no) := ps_never.imp fun D σ H ⟨ω, δ, S, s, q⟩ => q
theorem rs_doc {x : Str} {j : Nat} {pos' : Pos} : PS X (.Expr (.Constant (.str x) j pos) pos') (tS K cl own nw Mu fun δ => pure (.nx δ)) := ps_doc.imp fun D σ H ⟨ω, δ, S, s, q⟩ => sG.nx q s
theorem sw_none {e : Expr} (h : okSw e = true) {t : Option Expr} {l : Nat} {env : Env} : swapsWith e t l env = pure false := by
  cases e <;> first | rfl | cases h
theorem rs_expr (he : PE X e (tE K cl own true f)) (h : okSw e = true) : PS X (.Expr e pos) (tS K cl own nw Mu fun δ => do
    let _ ← f δ
    pure (.nx δ)) := by
  refine (ps_expr he (sw_none h)).imp fun D σ H ⟨ω, δ, S, s, q⟩ => ⟨ω, δ, S, s, sG_bind q fun ω1 v H1 x S1 g1 s1 r1 q1 => ?_⟩
  exact sG.nx q1 s1
/-! ### return -/
/-- the frame is left: what its own slots hold is given away -/
theorem SR.leave {ω : Wd} {H : Hp} {σ : L2.St} {δ : En} {S : Sto} (s : SR K cl own ω σ H δ S) : SR K cl [] ω.noOw σ H δ S := by
  have hb : ∀ b, ω.noOw.bar b → ω.bar b := fun b z => by
    rcases z with z | ⟨i, z⟩ | z
    · exact .inl z
    · cases z
    · exact .inr (.inr z)
  refine ⟨s.len, ⟨s.wok.nd, s.wok.rho, (fun i a z => nomatch z), (fun i j a z => nomatch z), s.wok.av⟩, fun i d h1 _ => ?_, (fun i d h1 h2 => nomatch h2), ⟨s.sto.len, fun n a d h1 h2 => (s.sto.obj n a d h1 h2).as rfl hb⟩⟩
  by_cases hi : i ∈ own
  · rcases s.osl i d h1 hi with ⟨a, q, y, x⟩ | ⟨hm, v, q, r⟩
    · refine ⟨_, q, x.rep rfl hb fun z => ?_⟩
      rcases z with z | ⟨j, z⟩ | z
      · exact (s.wok.ow i a y).2.1 z
      · cases z
      · exact (s.wok.ow i a y).2.2 z
    · exact ⟨v, q, r.as rfl hb⟩
  · obtain ⟨v, q, r⟩ := s.slot i d h1 hi
    exact ⟨v, q, r.as rfl hb⟩
theorem rs_ret (he : PE X e (tE K cl [] false f)) : PS X (.Return (some e) pos) (tS K cl own false Mu fun δ => do pure (.rt (← f δ))) := by
  refine (ps_ret he).imp fun D σ H ⟨ω, δ, S, s, q⟩ => ⟨ω.noOw, δ, S, s.leave, ?_⟩
  dsimp only at q
  rw [M.bind_run] at q
  cases e : f δ S with
  | exc _ _ => rw [e] at q; exact q.elim
  | no => rw [e] at q; exact q.elim
  | ok d S1 =>
    rw [e] at q
    intro ω1 v H1 g1 s1 r1
    have eo : ω1.ow = fun _ => none := g1.eq
    refine q ω1 v H1 ⟨g1.st.pre, fun a o h n _ => g1.st.keep a o h n (fun _ z => nomatch z), g1.st.tup, g1.st.new, (fun i a z => by rw [eo] at z; cases z), (fun a z => (g1.st.av a z).imp id fun y => y.elim .inl fun ⟨_, w⟩ => nomatch w), g1.st.dom⟩ g1.ea eo s1.wok s1.sto r1
theorem rs_retN : PS X (.Return none pos) (tS K cl own false Mu fun _ => pure (.rt .non)) := by
  refine ps_retN.imp fun D σ H ⟨ω, δ, S, s, q⟩ => ?_
  have s' := s.leave
  exact q ω.noOw .non H ⟨fun _ _ h => h, fun _ _ h _ _ => h, fun _ _ h => h, fun _ _ h => h, (fun i a z => nomatch z), fun _ h => .inl h, fun _ h => h⟩ rfl rfl s'.wok s'.sto .non
/-- return of something new -/
theorem rs_retX (he : PE X e (tN1 K cl [] f)) : PS X (.Return (some e) pos) (tS K cl own true Mu fun δ => do pure (.rt (← f δ))) := by
  refine (ps_ret he).imp fun D σ H ⟨ω, δ, S, s, q⟩ => ⟨ω.noOw, δ, S, s.leave, ?_⟩
  dsimp only at q
  rw [M.bind_run] at q
  cases e : f δ S with
  | exc _ _ => rw [e] at q; exact q.elim
  | no => rw [e] at q; exact q.elim
  | ok d S1 =>
    rw [e] at q
    intro ω1 a H1 n1 s1 o1
    have eo : ω1.ow = fun _ => none := n1.eq
    refine q ω1 a H1 ⟨n1.st.pre, fun b o h n _ => n1.st.keep b o h n (fun _ z => nomatch z), n1.st.tup, n1.st.new, (fun i b z => by rw [eo] at z; cases z), (fun a z => (n1.st.av a z).imp id fun y => y.elim .inl fun ⟨_, w⟩ => nomatch w), n1.st.dom⟩ (.inl (n1.new a (by simp))) (fun b => by rw [n1.av]; simp) eo s1.wok s1.sto o1
/-- return of what an own slot holds -/
theorem rs_retO {i : Nat} {x : Str} {px : Pos} (hN : X.N[i]? = some x) (hv : Vis X.env.scope x) (hd : (x == ("__debug__" : Str)) = false) (hcd : (x == ("__classdict__" : Str)) = false) (hi : i ∈ own) :
    PS X (.Return (some (.Name x px)) pos) (tS K cl own true Mu fun δ => do
      let d ← getV δ i
      if d.imm = true then M.no else pure (.rt d)) := by
  refine (ps_ret (pe_var hN hv hd hcd)).imp fun D σ H ⟨ω, δ, S, s, q⟩ => ?_
  dsimp only at q
  rw [M.bind_run] at q
  unfold getV at q
  cases eo : δ[i]? with
  | none => rw [eo] at q; exact q.elim
  | some oo =>
  cases oo with
  | none => rw [eo] at q; exact q.elim
  | some d =>
  rw [eo] at q
  simp only [M.pure_run] at q
  by_cases hm : d.imm = true
  · rw [if_pos hm] at q; exact q.elim
  rw [if_neg hm] at q
  rcases s.osl i d eo hi with ⟨A, hσ, hw, ho⟩ | ⟨hm', w, hσ, hr⟩
  case inr => exact absurd hm' hm
  refine ⟨.ref A, hσ, ?_⟩
  let ω' : Wd := { rho := ω.rho, ow := fun _ => none, av := fun b => ω.av b ∨ b = A }
  have hb : ∀ b, ω'.bar b → ω.bar b := fun b z => by
    rcases z with z | ⟨j, z⟩ | z | z
    · exact .inl z
    · cases z
    · exact .inr (.inr z)
    · exact .inr (.inl ⟨i, z ▸ hw⟩)
  have hA := s.wok.ow i A hw
  refine q ω' A H ?_ (.inr ⟨i, hw⟩) (fun b => Iff.rfl) rfl ⟨s.wok.nd, s.wok.rho, (fun i a z => nomatch z), (fun i j a z => nomatch z), fun b z => ?_⟩ ⟨s.sto.len, fun n a d h1 h2 => (s.sto.obj n a d h1 h2).as rfl hb⟩ (ho.as rfl hb)
  · refine ⟨fun _ _ h => h, fun _ _ h _ _ => h, fun _ _ h => h, fun _ _ h => h, (fun i a z => nomatch z), fun b h => ?_, fun _ h => h⟩
    rcases h with h | h
    · exact .inl h
    · exact .inr (.inr ⟨i, h ▸ hw⟩)
  · rcases z with z | z
    · exact s.wok.av b z
    · rw [z]; exact ⟨hA.1, hA.2.1⟩
end
end RF
end
section
set_option linter.all false
set_option maxRecDepth 100000
set_option maxHeartbeats 4000000
set_option autoImplicit false
/-! RfSnd13: assignments, loops. -/
namespace RF
open PySem PySem.Spec L2
open PyProof.Rows hiding St
section
variable {K : PySem.W.Frag} {cl : Nat → Addr} {own : List Nat} {nw : Bool} {Mu : List Nat} {X : Cx} {a c e tg iter : Expr} {st : Stmt} {rest body orelse : List Stmt} {pos p p2 : Pos} {f g : En → M D} {t : En → M Bool} {fs gs : En → M Fl} {ls : En → M (List D)} {T : Tg} {i : Nat} {x : Str}
/-! ### assignments -/
theorem asg_ok {ω : Wd} {H : Hp} {σ : L2.St} {δ : En} {S : Sto} {Dn : Ends} {v : V} {d : D} (s : SR K cl own ω σ H δ S) (r : Rep K cl ω H v d) (q : sG K cl own nw Mu ω H Dn ((do pure (.nx (← M.ofO (bindT T d δ))) : M Fl) S)) : tGt K cl own T v σ H Dn.nx := by
  refine ⟨ω, δ, S, d, s, r, ?_⟩
  rw [M.bind_run] at q
  cases e : bindT T d δ with
  | none => rw [e] at q; exact q.elim
  | some δ' =>
    rw [e] at q
    exact fun σ' s' _ => q ω σ' H (GoS.refl _ _ _) rfl s'
theorem rs_asg (he : PE X e (tE K cl own false f)) (hg : PG X tg (tGt K cl own T)) (hsw : okSw e = true) (hw : swappedStores [tg] e X.env = pure none) (hs : okShape tg = true) :
    PS X (.Assign [tg] e pos) (tS K cl own nw Mu fun δ => do
      let d ← f δ
      pure (.nx (← M.ofO (bindT T d δ)))) := by
  refine (ps_asg he hg (sw_none hsw) hw (assign_cons hs)).imp fun D σ H ⟨ω, δ, S, s, q⟩ => ⟨ω, δ, S, s, sG_bind q fun ω1 v H1 x S1 g1 s1 r1 q1 => ?_⟩
  exact asg_ok s1 r1 q1
/-- the slot's place -/
structure NmOk (X : Cx) (i : Nat) (x : Str) : Prop where
  nd : X.N.Nodup
  ix : X.N[i]? = some x
  loc : Loc X.env.scope x
  fn : X.fn x = true ∨ X.env.scope.names.lookup x = some .local
/-- what follows a new thing's coming -/
theorem own_ok {ω : Wd} {H : Hp} {σ : L2.St} {δ : En} {S : Sto} {Dn : Ends} (hi : i ∈ own) (s : SR K cl own ω σ H δ S) (q : sG K cl own nw Mu ω H Dn ((do
      let d ← f δ
      pure (.nx (← M.ofO (bindT (.nm i) d δ))) : M Fl) S)) : nG K cl own ω H σ δ (fun v H' => Dn.nx (σ.set i (some v)) H') (f δ S) := by
  rw [M.bind_run] at q
  cases e : f δ S with
  | exc _ _ => rw [e] at q; exact q.elim
  | no => rw [e] at q; exact q.elim
  | ok d S' =>
    rw [e] at q
    intro ω' b H' n s' o
    dsimp only at q
    rw [M.bind_run] at q
    unfold bindT at q
    by_cases hl : i < δ.length
    · rw [if_pos hl] at q
      obtain ⟨g, ea⟩ := n.take s.wok Mu i
      exact q _ _ H' g ea (s'.setOwn ((n.av b).mpr (.inr (by simp))) o hi hl)
    · rw [if_neg hl] at q
      exact q.elim
theorem sto_ok {ω : Wd} {H : Hp} {σ : L2.St} {δ : En} {S : Sto} {Dn : Ends} (hi : i ∉ own) (s : SR K cl own ω σ H δ S) (q : sG K cl own nw Mu ω H Dn ((do
      let d ← f δ
      fun s => match bindT (.nm i) (.obj s.length) δ with
        | some δ' => .ok (.nx δ') (s ++ [d])
        | none => .no : M Fl) S)) : nG K cl own ω H σ δ (fun v H' => Dn.nx (σ.set i (some v)) H') (f δ S) := by
  rw [M.bind_run] at q
  cases e : f δ S with
  | exc _ _ => rw [e] at q; exact q.elim
  | no => rw [e] at q; exact q.elim
  | ok d S' =>
    rw [e] at q
    intro ω' b H' n s' o
    dsimp only at q
    unfold bindT at q
    by_cases hl : i < δ.length
    · rw [if_pos hl] at q
      obtain ⟨g, ea⟩ := n.sto s.wok Mu
      exact q _ _ H' g ea (s'.mkSto ((n.av b).mpr (.inr (by simp))) o hi hl)
    · rw [if_neg hl] at q
      exact q.elim
/-- a plain slot takes what is given away -/
theorem giv_ok {ω : Wd} {H : Hp} {σ : L2.St} {δ : En} {S : Sto} {Dn : Ends} (hi : i ∉ own) (s : SR K cl own ω σ H δ S) (q : sG K cl own nw Mu ω H Dn ((do
      let d ← f δ
      pure (.nx (← M.ofO (bindT (.nm i) d δ))) : M Fl) S)) : nG K cl own ω H σ δ (fun v H' => Dn.nx (σ.set i (some v)) H') (f δ S) := by
  rw [M.bind_run] at q
  cases e : f δ S with
  | exc _ _ => rw [e] at q; exact q.elim
  | no => rw [e] at q; exact q.elim
  | ok d S' =>
    rw [e] at q
    intro ω' b H' n s' o
    obtain ⟨ω'', g, s'', r⟩ := n.give s.wok s' o
    dsimp only at q
    rw [M.bind_run] at q
    unfold bindT at q
    by_cases hl : i < δ.length
    · rw [if_pos hl] at q
      exact q ω'' _ H' (g.s Mu) g.ea (s''.set r hi hl)
    · rw [if_neg hl] at q
      exact q.elim
/-- an own thing is given away: its slot is no longer read -/
theorem rs_mov {j : Nat} {y z : Str} {px : Pos} (N : NmOk X j y) (hj : j ∉ own) (hi : i ∈ own) (hN : X.N[i]? = some z) (hv : Vis X.env.scope z) (hd : (z == ("__debug__" : Str)) = false) (hcd : (z == ("__classdict__" : Str)) = false) (hsw : okSw (.Name z px) = true) :
    PS X (.Assign [.Name y p] (.Name z px) pos) (tS K cl own nw Mu fun δ => do
      let d ← getV δ i
      if d.imm = true then M.no else pure (.nx (← M.ofO (bindT (.nm j) d (δ.set i none))))) := by
  refine (ps_set N.nd N.ix N.loc (pe_var hN hv hd hcd) (sw_none hsw) N.fn).imp fun D σ H ⟨ω, δ, S, s, q⟩ => ?_
  dsimp only at q
  rw [M.bind_run] at q
  unfold getV at q
  cases eo : δ[i]? with
  | none => rw [eo] at q; exact q.elim
  | some oo =>
  cases oo with
  | none => rw [eo] at q; exact q.elim
  | some d =>
  rw [eo] at q
  simp only [M.pure_run] at q
  by_cases hm : d.imm = true
  · rw [if_pos hm] at q; exact q.elim
  rw [if_neg hm] at q
  rw [M.bind_run] at q
  unfold bindT at q
  by_cases hl : j < (δ.set i none).length
  case neg => rw [if_neg hl] at q; exact q.elim
  rw [if_pos hl] at q
  rcases s.osl i d eo hi with ⟨A, hσ, hw, ho⟩ | ⟨hm', w, hσ, hr⟩
  case inr => exact absurd hm' hm
  refine ⟨.ref A, hσ, ?_⟩
  have hij : i ≠ j := fun e => hj (e ▸ hi)
  have hl' : j < δ.length := by simpa using hl
  have hl2 : j < σ.length := by rw [s.len]; exact hl'
  let ω' : Wd := { rho := ω.rho, ow := fun k => if k = i then none else ω.ow k, av := ω.av }
  have how : ∀ k b, ω'.ow k = some b → k ≠ i ∧ ω.ow k = some b := fun k b z => by
    show k ≠ i ∧ ω.ow k = some b
    have z' : (if k = i then none else ω.ow k) = some b := z
    split at z'
    · cases z'
    · rename_i h; exact ⟨h, z'⟩
  have hb : ∀ b, ω'.bar b → ω.bar b := fun b z => by
    rcases z with z | ⟨k, z⟩ | z
    · exact .inl z
    · exact .inr (.inl ⟨k, (how k b z).2⟩)
    · exact .inr (.inr z)
  have hA := s.wok.ow i A hw
  have hn : ¬ ω'.bar A := fun z => by
    rcases z with z | ⟨k, z⟩ | z
    · exact hA.2.1 z
    · exact (how k A z).1 (s.wok.inj k i A (how k A z).2 hw)
    · exact hA.2.2 z
  refine q ω' _ H ⟨fun _ _ h => h, fun _ _ h _ _ => h, fun _ _ h => h, fun _ _ h => h, fun k b z => .inl (how k b z).2, fun b h => .inl h, fun _ h => h⟩ rfl ?_
  refine ⟨by simp [s.len], ⟨s.wok.nd, s.wok.rho, fun k b z => s.wok.ow k b (how k b z).2, fun k k' b z z' => s.wok.inj k k' b (how k b z).2 (how k' b z').2, s.wok.av⟩, fun k e h1 h2 => ?_, fun k e h1 h2 => ?_, ⟨s.sto.len, fun n a d h1 h2 => (s.sto.obj n a d h1 h2).as rfl hb⟩⟩
  · by_cases zj : j = k
    · subst zj
      rw [List.getElem?_set_self hl] at h1
      cases h1
      exact ⟨.ref A, by rw [List.getElem?_set_self hl2], ho.rep rfl hb hn⟩
    · have zi : i ≠ k := fun e => h2 (e ▸ hi)
      rw [List.getElem?_set_ne zj, List.getElem?_set_ne zi] at h1
      rw [List.getElem?_set_ne zj]
      obtain ⟨v, q1, r1⟩ := s.slot k e h1 h2
      exact ⟨v, q1, r1.as rfl hb⟩
  · have zj : j ≠ k := fun e => hj (e ▸ h2)
    by_cases zi : i = k
    · subst zi
      rw [List.getElem?_set_ne zj] at h1
      by_cases hli : i < δ.length
      · rw [List.getElem?_set_self hli] at h1
        cases h1
      · rw [List.getElem?_eq_none (by simpa using hli)] at h1
        cases h1
    · rw [List.getElem?_set_ne zj, List.getElem?_set_ne zi] at h1
      rw [List.getElem?_set_ne zj]
      rcases s.osl k e h1 h2 with ⟨b, q1, q2, q3⟩ | ⟨q0, v, q1, q2⟩
      · exact .inl ⟨b, q1, (by show (if k = i then none else ω.ow k) = some b; rw [if_neg (Ne.symm zi)]; exact q2), q3.as rfl hb⟩
      · exact .inr ⟨q0, v, q1, q2.as rfl hb⟩
theorem rs_asgI (N : NmOk X i x) (hi : i ∈ own) (he : PE X e (tE K cl own false f)) (hsw : okSw e = true) : PS X (.Assign [.Name x p] e pos) (tS K cl own nw Mu fun δ => do
      let d ← f δ
      if d.imm = true then pure (.nx (← M.ofO (bindT (.nm i) d δ))) else M.no) := by
  refine (ps_set N.nd N.ix N.loc he (sw_none hsw) N.fn).imp fun D σ H ⟨ω, δ, S, s, q⟩ => ⟨ω, δ, S, s, sG_bind q fun ω1 v H1 x S1 g1 s1 r1 q1 => ?_⟩
  by_cases hm : x.imm = true
  · rw [if_pos hm] at q1
    rw [M.bind_run] at q1
    unfold bindT at q1
    by_cases hl : i < δ.length
    · rw [if_pos hl] at q1
      exact q1 ω1 _ H1 (GoS.refl _ _ _) rfl (s1.setImm r1 hm hi hl)
    · rw [if_neg hl] at q1
      exact q1.elim
  · rw [if_neg hm] at q1
    exact q1.elim
/-! ### name = [..] -/
variable {elt : Expr} {ifs : List Expr} {scope : Scope} {ow : List (Str × Nat)} {itf : En → M (List D)} {tg2 : Expr} {tt : En → M Bool} {te : En → M D}
def lcF (T : Tg) (vs : List Nat) (itf : En → M (List D)) (tt : En → M Bool) (te : En → M D) : En → M D := fun δ => do
  let items ← itf δ
  let l ← compL (compF T vs tt te δ) items
  if items.length < line then pure (.lst l) else M.no
structure LcOk (K : PySem.W.Frag) (cl : Nat → Addr) (own : List Nat) (X : Cx) (elt tg iter : Expr) (ifs : List Expr) (scope : Scope) (ow : List (Str × Nat)) (T : Tg) (itf : En → M (List D)) (tt : En → M Bool) (te : En → M D) : Prop where
  hc : X.calm = true
  hN : X.N.Nodup
  hi : PI X tg iter (tI K cl own [] itf)
  ok : BlkOk X.N X.env.scope scope ow
  hg : ∀ (s : Shared) (H : Hp) (C : Addr) (cll : List (Str × Addr)) (fp : List Addr), PG (X.blk s H scope (compEnvC scope cll C X.env) fp) tg (tGt K cl own T)
  ht : ∀ (s : Shared) (H : Hp) (C : Addr) (cll : List (Str × Addr)) (fp : List Addr), PTs (X.blk s H scope (compEnvC scope cll C X.env) fp) ifs (tT K cl own tt)
  he : ∀ (s : Shared) (H : Hp) (C : Addr) (cll : List (Str × Addr)) (fp : List Addr), PE (X.blk s H scope (compEnvC scope cll C X.env) fp) elt (tE K cl own false te)
  hs : okShape iter = true
  hv : ∀ i ∈ Tg.slots T, i ∈ ow.map (·.2)
/-- whether the name stands on the comprehension's line, and is no name of the comprehension's own -/
def lcSw (x : Str) (p pos : Pos) (scope : Scope) : Bool := (p.line == pos.line) && !(scope.names.any fun (n, k) => n == x && (k == .local || k == .cell))
theorem rs_setLc (L : LcOk X.K cl own X elt tg iter ifs scope ow T itf tt te) {spos : Pos} (hy : X.N[i]? = some x) (hf : X.env.scope.kind = .function) (hl : X.env.scope.names.lookup x = some .local) (hsw : lcSw x p pos scope = true) {h : (En → M D) → En → M Fl}
    (hq : ∀ {ω : Wd} {H : Hp} {σ : L2.St} {δ : En} {S : Sto} {Dn : Ends}, SR X.K cl own ω σ H δ S → sG X.K cl own nw Mu ω H Dn (h (lcF T (ow.map (·.2)) itf tt te) δ S) → nG X.K cl own ω H σ δ (fun v H' => Dn.nx (σ.set i (some v)) H') (lcF T (ow.map (·.2)) itf tt te δ S)) :
    PS X (.Assign [.Name x p] (.ListComp elt [⟨tg, iter, ifs, 0⟩] scope pos) spos) (tS X.K cl own nw Mu (h (lcF T (ow.map (·.2)) itf tt te))) := by
  unfold lcSw at hsw
  rw [Bool.and_eq_true] at hsw
  refine (ps_setLc L.hc L.hN hy hl (sw_true hf hl hsw.1 (by simpa using hsw.2)) L.hi L.ok L.hg L.ht L.he (shape_fold L.hs _)).imp fun D σ H ⟨ω, δ, S, s, q⟩ => ?_
  exact lc_ok L.hv s (hq s q)
/-- not so -/
theorem sw_lc {gs : List Comprehension} {l : Nat} {env : Env} (h : lcSw x p pos scope = false) (hk : env.scope.kind = .function) (hl : env.scope.names.lookup x = some .local) : swapsWith (.ListComp elt gs scope pos) (some (.Name x p)) l env = pure false := by
  have ky : env.kindOf x = some .local := hl
  have hb : env.blockKind = .function := by unfold Env.blockKind; rw [hk]; rfl
  unfold lcSw at h
  unfold swapsWith
  simp only [hb, ky, Expr.pos]
  rw [Bool.and_eq_false_iff] at h
  rcases h with h | h
  · rw [h]; rfl
  · have h' : (scope.names.any fun (n, k) => n == x && (k == .local || k == .cell)) = true := by simpa using h
    rw [h']
    simp
theorem sw_lc2 {gs : List Comprehension} {l : Nat} {env : Env} (hl : env.scope.names.lookup x ≠ some .local) (hk : env.scope.kind = .function) : swapsWith (.ListComp elt gs scope pos) (some (.Name x p)) l env = pure false := by
  have hb : env.blockKind = .function := by unfold Env.blockKind; rw [hk]; rfl
  have ky : (env.kindOf x == some .local) = false := by
    show (env.scope.names.lookup x == some .local) = false
    cases e : env.scope.names.lookup x with
    | none => rfl
    | some k => cases k <;> first | rfl | (rw [e] at hl; exact absurd rfl hl)
  unfold swapsWith
  simp only [hb, ky]
  rfl
theorem rs_setE (N : NmOk X i x) (he : PE X e (tN1 K cl own f)) {spos : Pos} (hsw : swapsWith e (some (.Name x p)) spos.line X.env = pure false) {h : (En → M D) → En → M Fl}
    (hq : ∀ {ω : Wd} {H : Hp} {σ : L2.St} {δ : En} {S : Sto} {Dn : Ends}, SR K cl own ω σ H δ S → sG K cl own nw Mu ω H Dn (h f δ S) → nG K cl own ω H σ δ (fun v H' => Dn.nx (σ.set i (some v)) H') (f δ S)) :
    PS X (.Assign [.Name x p] e spos) (tS K cl own nw Mu (h f)) :=
  (ps_set N.nd N.ix N.loc he hsw N.fn).imp fun D σ H ⟨ω, δ, S, s, q⟩ => ⟨ω, δ, S, s, hq s q⟩
end
end RF
end
section
set_option linter.all false
set_option maxRecDepth 100000
set_option maxHeartbeats 4000000
set_option autoImplicit false
/-! RfSnd14: stores into lists and dicts, append, loops. -/
namespace RF
open PySem PySem.Spec L2
open PyProof.Rows hiding St
section
variable {cl : Nat → Addr} {own : List Nat} {nw : Bool} {Mu : List Nat} {X : Cx} {a c e tg iter k : Expr} {st : Stmt} {rest body orelse : List Stmt} {pos p p2 apos : Pos} {f g : En → M D} {t : En → M Bool} {fs gs : En → M Fl} {ls : En → M (List D)} {T : Tg} {i : Nat} {x : Str}
/-! ### o[k] = v -/
theorem lst_nt {H : Hp} {a : Addr} {xs : List V} (h : H a = some (.lst xs)) : ∀ ys, ¬ Rd H a (.tup ys) := fun ys z => by
  rcases z with z | ⟨u, z⟩ <;> (rw [h] at z; cases z)
theorem dK_nt {H : Hp} {a : Addr} {xs : List (Key × V)} (h : H a = some (.dK xs)) : ∀ ys, ¬ Rd H a (.tup ys) := fun ys z => by
  rcases z with z | ⟨u, z⟩ <;> (rw [h] at z; cases z)
theorem key_of {ω : Wd} {K : PySem.W.Frag} {H : Hp} {v : V} {d : D} {m : Ky} (r : RepB K cl ω H v d) (h : keyOf d = some m) : v = kV m := by
  cases d with
  | int i => cases h; exact r.int
  | str x => cases h; exact r.str
  | _ => cases h
theorem len_of {δ : En} {i : Nat} {o : Option D} (h : δ[i]? = some o) : i < δ.length := (List.getElem?_eq_some_iff.mp h).1
theorem sws_none {e tg : Expr} (h : okSw e = true) {l : Nat} {env : Env} : swapsWithSole [tg] e l env = pure false := sw_none h
theorem pset_or {t t' : TSet} (h : PSet X t) (h' : PSet X t') : PSet X (fun o i v H Q => t o i v H Q ∨ t' o i v H Q) := fun pins s σ H o i v ov iv u Q I r1 r2 r3 q =>
  q.elim (fun z => h pins s σ H o i v ov iv u Q I r1 r2 r3 z) fun z => h' pins s σ H o i v ov iv u Q I r1 r2 r3 z
theorem rs_setIx {py : Pos} (hN : X.N[i]? = some x) (hv : Vis X.env.scope x) (hd : (x == ("__debug__" : Str)) = false) (hcd : (x == ("__classdict__" : Str)) = false) (hio : i ∈ own) (hi : i ∈ Mu) (hun : X.A.units + 128 < cLine)
    (he : PE X e (tE X.K cl own false f)) (hk : PE X k (tE X.K cl own true g)) (hse : okSw e = true)
    (ha : ∀ v, assign (.Subscript (.Name x py) k p) X.env v = (do
      let ov ← holding [v] (eval (.Name x py) X.env)
      let iv ← holding [v, ov] (eval k X.env)
      standAt p
      holding [v, ov, iv] (setItem ov iv v)
      release [v, ov, iv] [])) :
    PS X (.Assign [.Subscript (.Name x py) k p] e pos) (tS X.K cl own nw Mu fun δ => do
      let v ← f δ
      let o ← getV δ i
      let q ← g δ
      setIxF i o q v δ) := by
  refine (ps_asg he (pg_sub (pe_var hN hv hd hcd) hk (pset_or set_list (set_dict (by omega))) ha) (sws_none hse) rfl rfl).imp fun D σ H ⟨ω, δ, S, s, q⟩ => ⟨ω, δ, S, s, sG_bind q fun ω1 v H1 d S1 g1 s1 r1 q1 => ?_⟩
  rw [M.bind_run] at q1
  unfold getV at q1
  cases eo : δ[i]? with
  | none => rw [eo] at q1; exact q1.elim
  | some oo =>
  cases oo with
  | none => rw [eo] at q1; exact q1.elim
  | some o =>
  rw [eo] at q1
  simp only [M.pure_run] at q1
  have hl := len_of eo
  rcases s1.osl i o eo hio with ⟨A, hσ, hw, ho⟩ | ⟨hm, w, hσ, hr⟩
  case inr =>
    refine ⟨w, hσ, ω1, δ, S1, s1, sG_bind q1 fun ω2 u H2 q' S2 g2 s2 r2 q2 => ?_⟩
    unfold setIxF at q2
    cases o with
    | lst l => exact absurd hm (by simp [RF.D.imm])
    | dct l => exact absurd hm (by simp [RF.D.imm])
    | _ => exact q2.elim
  refine ⟨.ref A, hσ, ω1, δ, S1, s1, sG_bind q1 fun ω2 u H2 q' S2 g2 s2 r2 q2 => ?_⟩
  have hw2 : ω2.ow i = some A := by rw [g2.eq]; exact hw
  have ho2 : Own X.K cl ω2 H2 A o := by
    refine ho.go g2.st ?_
    have wk := s1.wok.ow i A hw
    cases h : H1 A with
    | none => exact absurd h wk.1
    | some ob => exact g2.st.keep A ob h wk.2.1 fun _ z => nomatch z
  have r1' := Rep.go r1 g2.st
  have hbar : ∀ ob, ∀ b ob', H2 b = some ob' → ¬ ω2.bar b → upd H2 A ob b = some ob' := fun ob => upd_bar (.inr (.inl ⟨i, hw2⟩))
  unfold setIxF at q2
  cases o with
  | lst l =>
    cases q' with
    | int j =>
      dsimp only at q2
      cases em : ixOf l.length j with
      | none => rw [em] at q2; exact q2.elim
      | some m =>
      rw [em] at q2
      obtain ⟨vs, hh, rl⟩ := ho2
      refine .inl ⟨A, vs, j, m, rfl, RepB.int r2, hh, by rw [rl.1]; exact em, ?_⟩
      obtain ⟨s3, g3⟩ := s2.chgOwn (o := .lst (vs.set m v)) (d := .lst (l.set m d)) hio hσ hw2 ⟨vs.set m v, upd_same, (rl.set r1' m).chg (hbar _) fun _ _ => upd_ptu (lst_nt hh)⟩ (lst_nt hh) hl
      exact q2 ω2 σ _ (g3.mono fun j hj => by simp at hj; rw [hj]; exact hi) rfl s3
    | _ => exact q2.elim
  | dct l =>
    dsimp only at q2
    cases em : keyOf q' with
    | none => rw [em] at q2; exact q2.elim
    | some m =>
    rw [em] at q2
    dsimp only at q2
    by_cases hz : l.length < line
    case neg => rw [if_neg hz] at q2; exact q2.elim
    rw [if_pos hz] at q2
    obtain ⟨vs, hh, rl⟩ := ho2
    have hz2 : vs.length < sizeLine := by rw [rl.1, ← line_eq]; exact hz
    refine .inr ⟨A, _, rfl, by rw [key_of r2 em]; exact DPut.k hh hz2, ?_⟩
    obtain ⟨s3, g3⟩ := s2.chgOwn (o := .dK (putK vs m v)) (d := .dct (dput l m d)) hio hσ hw2 ⟨putK vs m v, upd_same, (rl.put r1').chg (hbar _) fun _ _ => upd_ptu (dK_nt hh)⟩ (dK_nt hh) hl
    exact q2 ω2 σ _ (g3.mono fun j hj => by simp at hj; rw [hj]; exact hi) rfl s3
  | ins c l => exact q2.elim
  | _ => exact ho2.elim
theorem rs_setOb {py : Pos} (hN : X.N[i]? = some x) (hv : Vis X.env.scope x) (hd : (x == ("__debug__" : Str)) = false) (hcd : (x == ("__classdict__" : Str)) = false) (hun : X.A.units + 128 < cLine)
    (he : PE X e (tE X.K cl own false f)) (hk : PE X k (tE X.K cl own true g)) (hse : okSw e = true)
    (ha : ∀ v, assign (.Subscript (.Name x py) k p) X.env v = (do
      let ov ← holding [v] (eval (.Name x py) X.env)
      let iv ← holding [v, ov] (eval k X.env)
      standAt p
      holding [v, ov, iv] (setItem ov iv v)
      release [v, ov, iv] [])) :
    PS X (.Assign [.Subscript (.Name x py) k p] e pos) (tS X.K cl own nw Mu fun δ => do
      let v ← f δ
      let o ← getV δ i
      let q ← g δ
      setObF o q v δ) := by
  refine (ps_asg he (pg_sub (pe_var hN hv hd hcd) hk (pset_or set_list (set_dict (by omega))) ha) (sws_none hse) rfl rfl).imp fun D σ H ⟨ω, δ, S, s, q⟩ => ⟨ω, δ, S, s, sG_bind q fun ω1 v H1 d S1 g1 s1 r1 q1 => ?_⟩
  rw [M.bind_run] at q1
  unfold getV at q1
  cases eo : δ[i]? with
  | none => rw [eo] at q1; exact q1.elim
  | some oo =>
  cases oo with
  | none => rw [eo] at q1; exact q1.elim
  | some o =>
  rw [eo] at q1
  simp only [M.pure_run] at q1
  cases o with
  | obj n =>
    have hr : ∃ w, σ[i]? = some (some w) ∧ Rep X.K cl ω1 H1 w (.obj n) := by
      by_cases hio : i ∈ own
      · rcases s1.osl i _ eo hio with ⟨A, hσ, hw, ho⟩ | ⟨hm, w, hσ, hr⟩
        · exact ho.elim
        · exact ⟨w, hσ, hr⟩
      · exact s1.slot i _ eo hio
    obtain ⟨w, hσ, hr⟩ := hr
    refine ⟨w, hσ, ω1, δ, S1, s1, sG_bind q1 fun ω2 u H2 q' S2 g2 s2 r2 q2 => ?_⟩
    have hr2 := hr.go g2.st
    have r1' := Rep.go r1 g2.st
    unfold setObF at q2
    dsimp only at q2
    cases hr2 with
    | @obj b _ hb =>
      have hbar : ∀ ob, ∀ c ob', H2 c = some ob' → ¬ ω2.bar c → upd H2 b ob c = some ob' := fun ob => upd_bar (.inl (List.mem_of_getElem? hb))
      cases en : S2[n]? with
      | none => rw [en] at q2; exact q2.elim
      | some d' =>
      rw [en] at q2
      cases d' with
      | lst l =>
        cases q' with
        | int j =>
          dsimp only at q2
          cases em : ixOf l.length j with
          | none => rw [em] at q2; exact q2.elim
          | some m =>
          rw [em] at q2
          obtain ⟨vs, hh, rl⟩ := s2.sto.obj n b _ hb en
          refine .inl ⟨b, vs, j, m, rfl, RepB.int r2, hh, by rw [rl.1]; exact em, ?_⟩
          obtain ⟨s3, g3⟩ := s2.chgSto (o := .lst (vs.set m v)) (d := .lst (l.set m d)) hb ⟨vs.set m v, upd_same, (rl.set r1' m).chg (hbar _) fun _ _ => upd_ptu (lst_nt hh)⟩ (lst_nt hh) Mu
          exact q2 ω2 σ _ g3 rfl s3
        | _ => exact q2.elim
      | dct l =>
        dsimp only at q2
        cases em : keyOf q' with
        | none => rw [em] at q2; exact q2.elim
        | some m =>
        rw [em] at q2
        dsimp only at q2
        by_cases hz : l.length < line
        case neg => rw [if_neg hz] at q2; exact q2.elim
        rw [if_pos hz] at q2
        obtain ⟨vs, hh, rl⟩ := s2.sto.obj n b _ hb en
        have hz2 : vs.length < sizeLine := by rw [rl.1, ← line_eq]; exact hz
        refine .inr ⟨b, _, rfl, by rw [key_of r2 em]; exact DPut.k hh hz2, ?_⟩
        obtain ⟨s3, g3⟩ := s2.chgSto (o := .dK (putK vs m v)) (d := .dct (dput l m d)) hb ⟨putK vs m v, upd_same, (rl.put r1').chg (hbar _) fun _ _ => upd_ptu (dK_nt hh)⟩ (dK_nt hh) Mu
        exact q2 ω2 σ _ g3 rfl s3
      | _ => exact q2.elim
  | _ =>
    have hr : ∃ w, σ[i]? = some (some w) := by
      by_cases hio : i ∈ own
      · rcases s1.osl i _ eo hio with ⟨A, hσ, hw, ho⟩ | ⟨hm, w, hσ, hr⟩
        · exact ⟨_, hσ⟩
        · exact ⟨w, hσ⟩
      · obtain ⟨w, hσ, _⟩ := s1.slot i _ eo hio
        exact ⟨w, hσ⟩
    obtain ⟨w, hσ⟩ := hr
    refine ⟨w, hσ, ω1, δ, S1, s1, sG_bind q1 fun ω2 u H2 q' S2 g2 s2 r2 q2 => ?_⟩
    unfold setObF at q2
    exact q2.elim
/-! ### o[k], y = e -/
def obTF (i j : Nat) (g : En → M D) (δ : En) (d : D) : M Fl := match d with
  | .tup [a, b] => do
    let o ← getV δ i
    let q ← g δ
    match ← setObF o q a δ with
    | .nx δ' => do pure (.nx (← M.ofO (bindT (.nm j) b δ')))
    | _ => M.no
  | _ => M.no
theorem rs_obT {py pz pt : Pos} {y : Str} {j kt : Nat} (hN : X.N[i]? = some x) (hv : Vis X.env.scope x) (hd : (x == ("__debug__" : Str)) = false) (hcd : (x == ("__classdict__" : Str)) = false) (hun : X.A.units + 128 < cLine) (hcalm : X.calm = true)
    (hnd : X.N.Nodup) (hj : X.N[j]? = some y) (hy : Loc X.env.scope y) (hf : X.fn y = true ∨ X.env.scope.names.lookup y = some .local) (hjo : j ∉ own)
    (he : PE X e (tE X.K cl own false f)) (hk : PE X k (tE X.K cl own true g)) (hse : okSw e = true) (hst : swappedStores [.Tuple [.Subscript (.Name x py) k p, .Name y pz] kt pt] e X.env = pure none)
    (ha : ∀ v, assign (.Subscript (.Name x py) k p) X.env v = (do
      let ov ← holding [v] (eval (.Name x py) X.env)
      let iv ← holding [v, ov] (eval k X.env)
      standAt p
      holding [v, ov, iv] (setItem ov iv v)
      release [v, ov, iv] [])) :
    PS X (.Assign [.Tuple [.Subscript (.Name x py) k p, .Name y pz] kt pt] e pos) (tS X.K cl own nw Mu fun δ => do
      let d ← f δ
      obTF i j g δ d) := by
  refine (ps_asg he (pg_tup hcalm (pgs_cons (pg_sub (pe_var hN hv hd hcd) hk (pset_or set_list (set_dict (by omega))) ha) (pgs_cons (pg_name hnd hj hy hf) pgs_nil))) (sws_none hse) hst rfl).imp fun D σ H ⟨ω, δ, S, s, q⟩ => ⟨ω, δ, S, s, sG_bind q fun ω1 v H1 d S1 g1 s1 r1 q1 => ?_⟩
  unfold obTF at q1
  cases d with
  | tup ds =>
    match ds, r1, q1 with
    | [d1, d2], r1, q1 =>
      obtain ⟨A, vs, rfl, hA, rl⟩ := Rep.seqT r1
      have hlen := rl.1
      match vs, hlen, rl, hA with
      | [v1, v2], _, rl, hA =>
        refine ⟨A, [v1, v2], rfl, hA, rfl, v1, [v2], rfl, ?_⟩
        dsimp only at q1
        rw [M.bind_run] at q1
        unfold getV at q1
        cases eo : δ[i]? with
        | none => rw [eo] at q1; exact q1.elim
        | some oo =>
        cases oo with
        | none => rw [eo] at q1; exact q1.elim
        | some o =>
        rw [eo] at q1
        simp only [M.pure_run] at q1
        have hw : ∃ w, σ[i]? = some (some w) ∧ RepB X.K cl ω1 H1 w o := by
          by_cases hio : i ∈ own
          · rcases s1.osl i _ eo hio with ⟨B, hσ, hw, ho⟩ | ⟨hm, w, hσ, hr⟩
            · exact ⟨_, hσ, .inr ⟨B, i, rfl, hw, ho⟩⟩
            · exact ⟨w, hσ, .inl hr⟩
          · obtain ⟨w, hσ, hr⟩ := s1.slot i _ eo hio
            exact ⟨w, hσ, .inl hr⟩
        obtain ⟨w, hσ, hr⟩ := hw
        refine ⟨w, hσ, ω1, δ, S1, s1, sG_bind q1 fun ω2 u H2 q' S2 g2 s2 r2 q2 => ?_⟩
        have hr2 := hr.go g2 s1.wok
        have ra := (rl.go g2.st).head
        have rb := (rl.go g2.st).tail.head
        rw [M.bind_run] at q2
        unfold setObF at q2
        cases o with
        | obj n =>
          dsimp only at q2
          have hr3 : Rep X.K cl ω2 H2 w (.obj n) := by
            rcases hr2 with z | ⟨_, _, _, _, z⟩
            · exact z
            · exact z.elim
          cases hr3 with
          | @obj b _ hb =>
            have hbar : ∀ ob, ∀ c ob', H2 c = some ob' → ¬ ω2.bar c → upd H2 b ob c = some ob' := fun ob => upd_bar (.inl (List.mem_of_getElem? hb))
            have fin : ∀ {ω3 : Wd} {H3 : Hp} {S3 : Sto}, GoS Mu ω2 H2 ω3 H3 → ω3.av = ω2.av → SR X.K cl own ω3 σ H3 δ S3 → Rep X.K cl ω3 H3 v2 d2 → sG X.K cl own nw Mu ω2 H2 D ((do pure (.nx (← M.ofO (bindT (.nm j) d2 δ))) : M Fl) S3) → gCons (gName j) gNil [v2] σ H3 D.nx := fun {ω3 H3 S3} g3 a3 s3 r3 q3 => by
              refine ⟨v2, [], rfl, rfl, ?_⟩
              rw [M.bind_run] at q3
              unfold bindT at q3
              by_cases hl : j < δ.length
              · rw [if_pos hl] at q3
                exact q3 ω3 _ H3 g3 a3 (s3.set r3 hjo hl)
              · rw [if_neg hl] at q3
                exact q3.elim
            have q2' := q2
            cases en : S2[n]? with
            | none => rw [en] at q2; exact q2.elim
            | some d' =>
            rw [en] at q2
            cases d' with
            | lst l =>
              cases q' with
              | int z =>
                dsimp only at q2
                cases em : ixOf l.length z with
                | none => rw [em] at q2; exact q2.elim
                | some m =>
                rw [em] at q2
                dsimp only at q2
                obtain ⟨vs, hh, rl2⟩ := s2.sto.obj n b _ hb en
                refine .inl ⟨b, vs, z, m, rfl, RepB.int r2, hh, by rw [rl2.1]; exact em, ?_⟩
                obtain ⟨s3, g3⟩ := s2.chgSto (o := .lst (vs.set m v1)) (d := .lst (l.set m d1)) hb ⟨vs.set m v1, upd_same, (rl2.set ra m).chg (hbar _) fun _ _ => upd_ptu (lst_nt hh)⟩ (lst_nt hh) Mu
                exact fin g3 rfl s3 (rb.chg (hbar _) fun _ _ => upd_ptu (lst_nt hh)) q2
              | _ => exact q2.elim
            | dct l =>
              dsimp only at q2
              cases em : keyOf q' with
              | none => rw [em] at q2; exact q2.elim
              | some m =>
              rw [em] at q2
              dsimp only at q2
              by_cases hz : l.length < line
              case neg => rw [if_neg hz] at q2; exact q2.elim
              rw [if_pos hz] at q2
              dsimp only at q2
              obtain ⟨vs, hh, rl2⟩ := s2.sto.obj n b _ hb en
              have hz2 : vs.length < sizeLine := by rw [rl2.1, ← line_eq]; exact hz
              refine .inr ⟨b, _, rfl, by rw [key_of r2 em]; exact DPut.k hh hz2, ?_⟩
              obtain ⟨s3, g3⟩ := s2.chgSto (o := .dK (putK vs m v1)) (d := .dct (dput l m d1)) hb ⟨putK vs m v1, upd_same, (rl2.put ra).chg (hbar _) fun _ _ => upd_ptu (dK_nt hh)⟩ (dK_nt hh) Mu
              exact fin g3 rfl s3 (rb.chg (hbar _) fun _ _ => upd_ptu (dK_nt hh)) q2
            | _ => exact q2.elim
        | _ => exact q2.elim
    | [], _, q1 => exact q1.elim
    | [_], _, q1 => exact q1.elim
    | _ :: _ :: _ :: _, _, q1 => exact q1.elim
  | _ => exact q1.elim
/-! ### x.append(e) -/
theorem few_one {e : Expr} {env : Env} {cpos : Pos} (h : okShape e = true) : ((backTo cpos (starEach [e] env)).all (fun x => !x.1) && (backToKw cpos (keywordEach [] env)).all (fun x => x.1.isSome)
      && decide (([e] : List Expr).length + ([] : List Keyword).length + (if ([] : List Keyword).isEmpty then 0 else 1) < 30)) = true := by
  cases e <;> first | rfl | cases h
theorem rs_app {py : Pos} (hN : X.N[i]? = some x) (hv : Vis X.env.scope x) (hd : (x == ("__debug__" : Str)) = false) (hcd : (x == ("__classdict__" : Str)) = false) (hio : i ∈ own) (hi : i ∈ Mu)
    (he : PE X e (tE X.K cl own false f)) (hs : okShape e = true) (hline : (apos.endLine == p.line) = true) :
    PS X (.Expr (.Call (.Attribute (.Name x py) "append" apos) [e] [] p) pos) (tS X.K cl own nw Mu fun δ => do
      let o ← getV δ i
      let v ← f δ
      appF i o v δ) := by
  refine (ps_expr (pe_bm PySem.F.plainAttrs_list PySem.F.slot_list_append PySem.F.type_list_append mt_append (pe_var hN hv hd hcd) (pa_cons he pa_nil (shape_star hs)) rfl (few_one hs) hline (shape_star hs) (noStar rfl)) rfl).imp fun D σ H ⟨ω, δ, S, s, q⟩ => ?_
  dsimp only at q
  rw [M.bind_run] at q
  unfold getV at q
  cases eo : δ[i]? with
  | none => rw [eo] at q; exact q.elim
  | some oo =>
  cases oo with
  | none => rw [eo] at q; exact q.elim
  | some o =>
  rw [eo] at q
  simp only [M.pure_run] at q
  have hl := len_of eo
  rcases s.osl i o eo hio with ⟨A, hσ, hw, ho⟩ | ⟨hm, w, hσ, hr⟩
  case inr =>
    exfalso
    rw [M.bind_run] at q
    cases e : f δ S with
    | exc _ _ => rw [e] at q; exact q.elim
    | no => rw [e] at q; exact q.elim
    | ok d S' =>
      rw [e] at q
      dsimp only at q
      unfold appF at q
      cases o <;> first | exact q.elim | exact absurd hm (by simp [RF.D.imm])
  cases o with
  | lst l =>
    obtain ⟨vs, hh, rl⟩ := ho
    refine ⟨.ref A, hσ, .inl ⟨rfl, vs, SqL.of hh⟩, ω, δ, S, s, sG_bind q fun ω1 v H1 d S1 g1 s1 r1 q1 => ?_⟩
    unfold appF at q1
    dsimp only at q1
    by_cases hz : l.length < line
    case neg => rw [if_neg hz] at q1; exact q1.elim
    rw [if_pos hz] at q1
    have hw2 : ω1.ow i = some A := by rw [g1.eq]; exact hw
    have hh1 : H1 A = some (.lst vs) := g1.st.keep A _ hh (s.wok.ow i A hw).2.1 fun _ z => nomatch z
    refine ⟨A, vs, v, rfl, rfl, hh1, by rw [rl.1, ← line_eq]; exact hz, ?_⟩
    have hbar := upd_bar (H := H1) (o := .lst (vs ++ [v])) (p := A) (ω := ω1) (.inr (.inl ⟨i, hw2⟩))
    obtain ⟨s3, g3⟩ := s1.chgOwn (o := .lst (vs ++ [v])) (d := .lst (l ++ [d])) hio hσ hw2 ⟨vs ++ [v], upd_same, ((rl.go g1.st).append (RepL.cons r1 RepL.nil)).chg hbar fun _ _ => upd_ptu (lst_nt hh1)⟩ (lst_nt hh1) hl
    exact q1 ω1 σ _ (g3.mono fun j hj => by simp at hj; rw [hj]; exact hi) rfl s3
  | dct l =>
    exfalso
    rw [M.bind_run] at q
    cases e : f δ S with
    | exc _ _ => rw [e] at q; exact q.elim
    | no => rw [e] at q; exact q.elim
    | ok d S' => rw [e] at q; exact q.elim
  | ins c l =>
    exfalso
    rw [M.bind_run] at q
    cases e : f δ S with
    | exc _ _ => rw [e] at q; exact q.elim
    | no => rw [e] at q; exact q.elim
    | ok d S' => rw [e] at q; exact q.elim
  | _ => exact ho.elim
end
end RF
end
section
set_option linter.all false
set_option maxRecDepth 100000
set_option maxHeartbeats 4000000
set_option autoImplicit false
/-! RfSnd15: a, b = x, y; loops. -/
namespace RF
open PySem PySem.Spec L2
open PyProof.Rows hiding St
/-! ### a, b = x, y -/
def setV : L2.St → List Nat → List V → L2.St
  | σ, i :: is, v :: vs => setV (σ.set i (some v)) is vs
  | σ, _, _ => σ
section
variable {K : PySem.W.Frag} {cl : Nat → Addr} {own : List Nat}
theorem NewL.as {ω ω' : Wd} {H : Hp} {ks : List Bool} {vs : List V} {ds : List D} {as : List Addr} (r : NewL K cl ω H ks vs ds as) (e1 : ω'.rho = ω.rho) (e2 : ∀ b, ω'.bar b → ω.bar b) : NewL K cl ω' H ks vs ds as := by
  induction r with
  | nil => exact .nil
  | giv r t ih => exact .giv (r.as e1 e2) ih
  | own o t ih => exact .own (o.as e1 e2) ih
theorem SR.setMany {H : Hp} {S : Sto} {ks : List Bool} {vs : List V} {ds : List D} {as : List Addr} : ∀ {ω : Wd} {σ : L2.St} {δ δ' : En} {is : List Nat}, NewL K cl ω H ks vs ds as → SR K cl own ω σ H δ S → ks = is.map (fun i => decide (i ∈ own)) → (∀ a ∈ as, ω.av a) → as.Nodup → RF.setMany is ds δ = some δ' →
    ∃ ω', SR K cl own ω' (setV σ is vs) H δ' S ∧ ω'.rho = ω.rho ∧ (∀ b, ω'.av b ↔ ω.av b ∧ b ∉ as) ∧ ∀ j b, ω'.ow j = some b → ω.ow j = some b ∨ b ∈ as := by
  induction ks generalizing vs ds as with
  | nil =>
    intro ω σ δ δ' is r s hk ha hn h
    cases r
    cases is with
    | nil =>
      cases h
      exact ⟨ω, s, rfl, fun b => by simp, fun j b z => .inl z⟩
    | cons i is => cases hk
  | cons k ks ih =>
    intro ω σ δ δ' is r s hk ha hn h
    cases is with
    | nil => cases hk
    | cons i is =>
      rw [List.map_cons, List.cons.injEq] at hk
      cases r with
      | @giv _ v vs d ds as r t =>
        have hi : i ∉ own := fun z => by have := hk.1; simp [z] at this
        unfold RF.setMany at h
        by_cases hl : i < δ.length
        · rw [if_pos hl] at h
          exact ih (vs := vs) (ds := ds) (as := as) (σ := σ.set i (some v)) (is := is) t (s.set r hi hl) hk.2 ha hn h
        · rw [if_neg hl] at h; cases h
      | @own _ a vs d ds as o t =>
        have hi : i ∈ own := by have := hk.1; simpa using this.symm
        unfold RF.setMany at h
        rw [List.nodup_cons] at hn
        by_cases hl : i < δ.length
        · rw [if_pos hl] at h
          have hA := ha a (by simp)
          obtain ⟨ω', s', e1, e2, e3⟩ := ih (vs := vs) (ds := ds) (as := as) (σ := σ.set i (some (.ref a))) (is := is) (t.as (ω' := ω.take i a) rfl fun b z => Wd.take_bar hA z) (s.setOwn hA o hi hl) hk.2 (fun b hb => ⟨ha b (List.mem_cons_of_mem _ hb), fun z => hn.1 (z ▸ hb)⟩) hn.2 h
          refine ⟨ω', s', e1, fun b => ?_, fun j b z => ?_⟩
          · rw [e2]
            show (ω.av b ∧ b ≠ a) ∧ b ∉ as ↔ ω.av b ∧ b ∉ a :: as
            simp only [List.mem_cons, not_or, ne_eq, and_assoc]
          · rcases e3 j b z with z | z
            · have z' : (if j = i then some a else ω.ow j) = some b := z
              by_cases e : j = i
              · rw [if_pos e] at z'; cases z'
                exact .inr (by simp)
              · rw [if_neg e] at z'
                exact .inl z'
            · exact .inr (List.mem_cons_of_mem _ z)
        · rw [if_neg hl] at h; cases h
end
section
variable {K : PySem.W.Frag} {cl : Nat → Addr} {own : List Nat} {nw : Bool} {Mu : List Nat} {X : Cx} {a b c e tg iter k : Expr} {st : Stmt} {rest body orelse : List Stmt} {pos p p2 apos px py pz pt pt2 : Pos} {f g : En → M D} {t : En → M Bool} {fs gs : En → M Fl} {ls : En → M (List D)} {T : Tg} {i j l : Nat} {x y z : Str}
theorem par_ok {ω : Wd} {H : Hp} {σ : L2.St} {δ : En} {S : Sto} {Dn : Ends} {is : List Nat} (s : SR K cl own ω σ H δ S) (q : sG K cl own nw Mu ω H Dn ((do
      let ds ← ls δ
      pure (.nx (← M.ofO (RF.setMany is ds δ))) : M Fl) S)) (Q : List V → Hp → Prop) (hQ : ∀ vs H', vs.length = is.length → Dn.nx (setV σ is vs) H' → Q vs H') : tN K cl own (is.map fun i => decide (i ∈ own)) ls σ H Q := by
  refine ⟨ω, δ, S, s, ?_⟩
  rw [M.bind_run] at q
  cases e : ls δ S with
  | exc _ _ => rw [e] at q; exact q.elim
  | no => rw [e] at q; exact q.elim
  | ok ds S' =>
    rw [e] at q
    intro ω' vs as H' n s' r
    dsimp only at q
    rw [M.bind_run] at q
    cases e2 : RF.setMany is ds δ with
    | none => rw [e2] at q; exact q.elim
    | some δ' =>
      rw [e2] at q
      obtain ⟨ω2, s2, h1, h2, h3⟩ := SR.setMany r s' rfl (fun a ha => (n.av a).mpr (.inr ha)) n.nd e2
      have hv : vs.length = is.length := by
        have : ∀ {ks : List Bool} {vs : List V} {ds : List D} {as : List Addr}, NewL K cl ω' H' ks vs ds as → vs.length = ks.length := by
          intro ks vs ds as r
          induction r with
          | nil => rfl
          | giv _ _ ih => simp [ih]
          | own _ _ ih => simp [ih]
        rw [this r, List.length_map]
      refine hQ vs H' hv (q ω2 _ H' ⟨fun m b z => by rw [h1]; exact n.st.pre m b z, fun b o h n' _ => n.st.keep b o h n' (fun _ z => nomatch z), n.st.tup, fun b h n' => by rw [h1]; exact n.st.new b h n', fun m b z => ?_, fun b z => ?_, n.st.dom⟩ (funext fun b => propext ?_) s2)
      · rcases h3 m b z with z | z
        · rw [n.eq] at z; exact .inl z
        · exact .inr (n.new b z)
      · rcases (n.av b).mp ((h2 b).mp z).1 with z | z
        · exact .inl z
        · exact .inr (.inl (n.new b z))
      · rw [h2, n.av]
        constructor
        · rintro ⟨z | z, y⟩
          · exact z
          · exact absurd z y
        · exact fun z => ⟨.inl z, fun y => (s.wok.av b z).1 (n.new b y)⟩
/-- names, one after another -/
def gNms (is : List Nat) : TGs := fun vs σ H Q => vs.length = is.length ∧ Q (setV σ is vs) H
def NmsOk (X : Cx) : List Nat → List Expr → Prop
  | [], [] => True
  | i :: is, .Name x _ :: ts => NmOk X i x ∧ NmsOk X is ts
  | _, _ => False
theorem pgs_nms : ∀ {is : List Nat} {ts : List Expr}, NmsOk X is ts → PGs X ts (gNms is) ∧ ts.all okShape = true ∧ ts.length = is.length
  | [], [], _ => ⟨PGs.imp pgs_nil fun vs σ H Q ⟨h, q⟩ => by
    obtain rfl := List.length_eq_zero_iff.mp h
    exact ⟨rfl, q⟩, rfl, rfl⟩
  | i :: is, t :: ts, h => by
    cases t <;> first | exact h.elim | skip
    obtain ⟨N, h⟩ := h
    obtain ⟨p, q1, q2⟩ := pgs_nms h
    refine ⟨PGs.imp (pgs_cons (pg_name N.nd N.ix N.loc N.fn) p (assign_cons rfl)) fun vs σ H Q ⟨h, q⟩ => ?_, by rw [List.all_cons, q1]; rfl, by rw [List.length_cons, List.length_cons, q2]⟩
    cases vs with
    | nil => cases h
    | cons v vs => exact ⟨v, vs, rfl, by simpa using h, q⟩
  | [], _ :: _, h => h.elim
  | _ :: _, [], h => h.elim
/-- by way of a tuple -/
theorem par_okT {ω : Wd} {H : Hp} {σ : L2.St} {δ : En} {S : Sto} {Dn : Ends} {is : List Nat} (s : SR K cl own ω σ H δ S) (q : sG K cl own nw Mu ω H Dn ((do
      let ds ← ls δ
      pure (.nx (← M.ofO (RF.setMany is ds δ))) : M Fl) S)) (Q : List V → Hp → Prop) (hQ : ∀ vs H', vs.length = is.length → (∀ p o, H' p = none → Dn.nx (setV σ is vs) (L2.upd H' p o)) → Q vs H') : tN K cl own (is.map fun i => decide (i ∈ own)) ls σ H Q := by
  refine par_ok (nw := nw) (Mu := Mu) (Dn := { Dn with nx := fun σ' H' => ∀ p o, H' p = none → Dn.nx σ' (L2.upd H' p o) }) s ?_ Q hQ
  cases e : ((do
      let ds ← ls δ
      pure (.nx (← M.ofO (RF.setMany is ds δ))) : M Fl) S) with
  | exc _ _ => rw [e] at q; exact q.elim
  | no => rw [e] at q; exact q.elim
  | ok fl S' =>
    rw [e] at q
    cases fl with
    | nx δ' =>
      intro ω' σ' H' g ea sr p o hp
      exact q ω' σ' _ (g.trans ((Go.upd hp sr.wok).s Mu)) ea (sr.upd hp)
    | bk δ' => exact q
    | rt d => exact q
theorem rs_parT {is : List Nat} {ts es : List Expr} {k1 k2 : Nat} (hc : X.calm = true) (hn : NmsOk X is ts) (hw : swappedStores [.Tuple ts k1 pt] (.Tuple es k2 pt2) X.env = pure none) (h1000 : is.length ≤ 1000)
    (ha : PA X es (tN X.K cl own (is.map fun i => decide (i ∈ own)) ls)) : PS X (.Assign [.Tuple ts k1 pt] (.Tuple es k2 pt2) pos) (tS X.K cl own nw Mu fun δ => do
      let ds ← ls δ
      pure (.nx (← M.ofO (RF.setMany is ds δ)))) := by
  obtain ⟨p, q1, q2⟩ := pgs_nms hn
  obtain ⟨z1, z2⟩ := assign_shape (env := X.env) q1
  have hsw : swapsWithSole [.Tuple ts k1 pt] (.Tuple es k2 pt2) pos.line X.env = pure false := rfl
  refine (ps_asg (pe_tup ha) (pg_tup (n := ts.length) hc p z1 z2) hsw hw (assign_cons rfl)).imp fun D σ H ⟨ω, δ, S, s, q⟩ => ?_
  refine par_okT s q _ fun vs H' hv hd => ⟨by rw [sizeLine_eq, hv]; omega, fun a ha => ⟨a, vs, rfl, ?_, by rw [hv, q2], hv, hd a _ ha⟩⟩
  exact .inl (.inl upd_same)
/-- the values of a pair or of three are stored name by name, from the right -/
theorem sw_names2 (hk : X.env.scope.kind = .function) (hx : X.env.scope.names.lookup x = some .local) (hy : X.env.scope.names.lookup y = some .local) (hxy : (x == y) = false) (hl : (py.line == px.line) = true) {k1 k2 : Nat}
    (hs : [a, b].all okShape = true) (h1 : [a, b].all (foldedForSure 8) = false) (h2 : [a, b].all (constantsAlone 8) = false) :
    swappedStores [.Tuple [.Name x px, .Name y py] k1 pt] (.Tuple [a, b] k2 pt2) X.env = pure (some [x, y]) := by
  have kx : X.env.kindOf x = some .local := hx
  have ky : X.env.kindOf y = some .local := hy
  have hb : X.env.blockKind = .function := by unfold Env.blockKind; rw [hk]; rfl
  have oa : okShape a = true := by simp at hs; exact hs.1
  have ob : okShape b = true := by simp at hs; exact hs.2
  have hne : x ≠ y := by simpa using hxy
  have hl' : py.line = px.line := by simpa using hl
  have hd : ([x, y] : List Str).eraseDups.length = 2 := by
    simp [List.eraseDups_cons, Ne.symm hne]
  unfold swappedStores
  simp only [hb, h1, h2, Expr.pos]
  simp [List.filterMap_cons, kx, ky, hl', hd]
  intro h
  rcases h with h | h
  · cases a <;> first | (cases oa; done) | cases h
  · cases b <;> first | (cases ob; done) | cases h
theorem sw_names3 (hk : X.env.scope.kind = .function) (hx : X.env.scope.names.lookup x = some .local) (hy : X.env.scope.names.lookup y = some .local) (hz : X.env.scope.names.lookup z = some .local) (hxy : (x == y) = false) (hxz : (x == z) = false) (hyz : (y == z) = false)
    (hl : (py.line == px.line) = true) (hl2 : (pz.line == px.line) = true) {k1 k2 : Nat}
    (hs : [a, b, c].all okShape = true) (h1 : [a, b, c].all (foldedForSure 8) = false) (h2 : [a, b, c].all (constantsAlone 8) = false) :
    swappedStores [.Tuple [.Name x px, .Name y py, .Name z pz] k1 pt] (.Tuple [a, b, c] k2 pt2) X.env = pure (some [x, y, z]) := by
  have kx : X.env.kindOf x = some .local := hx
  have ky : X.env.kindOf y = some .local := hy
  have kz : X.env.kindOf z = some .local := hz
  have hb : X.env.blockKind = .function := by unfold Env.blockKind; rw [hk]; rfl
  have oa : okShape a = true := by simp at hs; exact hs.1
  have ob : okShape b = true := by simp at hs; exact hs.2.1
  have oc : okShape c = true := by simp at hs; exact hs.2.2
  have hne : x ≠ y := by simpa using hxy
  have hne2 : x ≠ z := by simpa using hxz
  have hne3 : y ≠ z := by simpa using hyz
  have hl' : py.line = px.line := by simpa using hl
  have hl2' : pz.line = px.line := by simpa using hl2
  have hd : ([x, y, z] : List Str).eraseDups.length = 3 := by
    simp [List.eraseDups_cons, Ne.symm hne, Ne.symm hne2, Ne.symm hne3]
  unfold swappedStores
  simp only [hb, h1, h2, Expr.pos]
  simp [List.filterMap_cons, kx, ky, kz, hl', hl2', hd]
  intro h
  rcases h with h | h | h
  · cases a <;> first | (cases oa; done) | cases h
  · cases b <;> first | (cases ob; done) | cases h
  · cases c <;> first | (cases oc; done) | cases h
theorem rs_par2 {k1 k2 : Nat} (hc : X.calm = true) (hN : X.N.Nodup) (hi : X.N[i]? = some x) (hj : X.N[j]? = some y) (hij : i ≠ j) (hk : X.env.scope.kind = .function) (hx : X.env.scope.names.lookup x = some .local) (hy : X.env.scope.names.lookup y = some .local)
    (hl : (py.line == px.line) = true) (hs : [a, b].all okShape = true) (h1 : [a, b].all (foldedForSure 8) = false) (h2 : [a, b].all (constantsAlone 8) = false)
    (ha : PA X [a, b] (tN K cl own ([i, j].map fun i => decide (i ∈ own)) ls)) : PS X (.Assign [.Tuple [.Name x px, .Name y py] k1 pt] (.Tuple [a, b] k2 pt2) pos) (tS K cl own nw Mu fun δ => do
      let ds ← ls δ
      pure (.nx (← M.ofO (RF.setMany [i, j] ds δ)))) := by
  have hxy : (x == y) = false := by
    refine beq_eq_false_iff_ne.mpr fun z => hij ?_
    subst z
    have l1 : i < X.N.length := (List.getElem?_eq_some_iff.mp hi).1
    exact (List.getElem?_inj l1 hN).mp (hi.trans hj.symm)
  refine (ps_par hc hN hi hj hij hx hy ha (sw_names2 hk hx hy hxy hl hs h1 h2)).imp fun D σ H ⟨ω, δ, S, s, q⟩ => ?_
  refine par_ok s q _ fun vs H' hv hd => ?_
  match vs, hv with
  | [v, w], _ => exact ⟨v, w, rfl, hd⟩
theorem rs_par3 {k1 k2 : Nat} (hc : X.calm = true) (hN : X.N.Nodup) (hi : X.N[i]? = some x) (hj : X.N[j]? = some y) (hl : X.N[l]? = some z) (hij : i ≠ j) (hil : i ≠ l) (hjl : j ≠ l) (hk : X.env.scope.kind = .function) (hx : X.env.scope.names.lookup x = some .local) (hy : X.env.scope.names.lookup y = some .local) (hz : X.env.scope.names.lookup z = some .local)
    (hl1 : (py.line == px.line) = true) (hl2 : (pz.line == px.line) = true) (hs : [a, b, c].all okShape = true) (h1 : [a, b, c].all (foldedForSure 8) = false) (h2 : [a, b, c].all (constantsAlone 8) = false)
    (ha : PA X [a, b, c] (tN K cl own ([i, j, l].map fun i => decide (i ∈ own)) ls)) : PS X (.Assign [.Tuple [.Name x px, .Name y py, .Name z pz] k1 pt] (.Tuple [a, b, c] k2 pt2) pos) (tS K cl own nw Mu fun δ => do
      let ds ← ls δ
      pure (.nx (← M.ofO (RF.setMany [i, j, l] ds δ)))) := by
  have nn : ∀ {i j : Nat} {x y : Str}, X.N[i]? = some x → X.N[j]? = some y → i ≠ j → (x == y) = false := fun hi hj hij => by
    refine beq_eq_false_iff_ne.mpr fun z => hij ?_
    subst z
    exact (List.getElem?_inj (List.getElem?_eq_some_iff.mp hi).1 hN).mp (hi.trans hj.symm)
  refine (ps_par3 hc hN hi hj hl hij hil hjl hx hy hz ha (sw_names3 hk hx hy hz (nn hi hj hij) (nn hi hl hil) (nn hj hl hjl) hl1 hl2 hs h1 h2)).imp fun D σ H ⟨ω, δ, S, s, q⟩ => ?_
  refine par_ok s q _ fun vs H' hv hd => ?_
  match vs, hv with
  | [u, v, w], _ => exact ⟨u, v, w, rfl, hd⟩
/-! ### loops -/
theorem rs_for {itf : En → M (List D)} (hp : PassesOwn (model X.prog X.w) X.A X.env X.xe) (hc : X.calm = true) (hi : PI X tg iter (tI K cl own Mu itf)) (hg : PG X tg (tGt K cl own T)) (hb : PSs X body (tS K cl own nw Mu fs)) (hs : okShape iter = true) :
    PS X (.For tg iter body [] pos) (tS K cl own nw Mu fun δ => do
      let items ← itf δ
      forL (fun d δ' => do
        let δ'' ← M.ofO (bindT T d δ')
        fs δ'') items δ) := by
  refine (ps_for hp hc hi hg hb (shape_fold hs _)).imp fun Dn σ H ⟨ω, δ, S, s, q⟩ => ⟨ω, δ, S, s, ?_⟩
  dsimp only at q
  rw [M.bind_run] at q
  cases e : itf δ S with
  | exc _ _ => rw [e] at q; exact q.elim
  | no => rw [e] at q; exact q.elim
  | ok items S1 =>
    rw [e] at q
    intro ω1 H1 J g1 s1 ⟨G, Y, wk, hG, hY⟩
    dsimp only at q
    generalize hF : (fun d δ' => M.ofO (bindT T d δ') >>= fun δ'' => fs δ'') = F at q
    have q1 := sG.go q (g1.s Mu) g1.ea
    refine for_it wk (fun i σ3 H3 => ∃ ω3 δ3 S3, GoS Mu ω1 H1 ω3 H3 ∧ ω3.av = ω1.av ∧ SR K cl own ω3 σ3 H3 δ3 S3 ∧ sG K cl own nw Mu ω3 H3 Dn (forL F (items.drop i) δ3 S3)) ?_ ?_ ?_ ?_
    · exact ⟨ω1, δ, S1, GoS.refl _ _ _, rfl, s1, q1⟩
    · rintro i σ3 H3 _ ⟨ω3, δ3, S3, g3, _⟩
      exact hG ω3 H3 g3
    · rintro i x σ3 H3 H4 hlt ⟨ω3, δ3, S3, g3, a3, s3, q3⟩ y
      obtain ⟨hh, d, hd, rd⟩ := hY i ω3 H3 x H4 hlt g3 s3.wok y
      have edrop : items.drop i = d :: items.drop (i + 1) := by
        rw [List.drop_eq_getElem_cons hlt]
        rw [List.getElem?_eq_getElem hlt] at hd
        cases hd
        rfl
      have k3 : Go ω3 H3 ω3 H4 ∧ SR K cl own ω3 σ3 H4 δ3 S3 := by
        rcases hh with rfl | ⟨T, o, hT, rfl⟩
        · exact ⟨Go.refl _ _, s3⟩
        · exact ⟨Go.upd' _ hT, s3.upd hT⟩
      obtain ⟨gy, sy⟩ := k3
      have q4 := sG.go q3 (gy.s Mu) gy.ea
      rw [edrop] at q4
      unfold forL at q4
      rw [M.bind_run, ← hF] at q4
      dsimp only at q4
      rw [M.bind_run] at q4
      refine ⟨ω3, δ3, S3, d, sy, rd, ?_⟩
      cases eb : bindT T d δ3 with
      | none => rw [eb] at q4; exact q4.elim
      | some δ4 =>
      rw [eb] at q4
      intro σ4 s4 _
      refine ⟨ω3, δ4, S3, s4, ?_⟩
      rw [show M.ofO (some δ4) S3 = Out.ok δ4 S3 from rfl] at q4
      dsimp only at q4
      cases ef : fs δ4 S3 with
      | exc _ _ => rw [ef] at q4; exact q4.elim
      | no => rw [ef] at q4; exact q4.elim
      | ok fl S5 =>
        rw [ef] at q4
        cases fl with
        | nx δ5 =>
          intro ω5 σ5 H5 g5 a5 s5
          dsimp only at q4
          rw [hF] at q4
          exact ⟨ω5, δ5, S5, (g3.trans (gy.s Mu)).trans g5, a5.trans a3, s5, sG.go q4 g5 a5⟩
        | bk δ5 => exact fun ω5 σ5 H5 g5 a5 s5 => q4 ω5 σ5 H5 g5 a5 s5
        | rt v => exact q4
    · rintro σ3 H3 ⟨ω3, δ3, S3, g3, a3, s3, q3⟩
      rw [List.drop_length] at q3
      exact sG.nx q3 s3
theorem rs_while {fuel : Nat} (hp : PassesOwn (model X.prog X.w) X.A X.env X.xe) (hc : PT X c (tT K cl own t)) (hb : PSs X body (tS K cl own nw Mu fs)) : PS X (.While c body [] pos) (tS K cl own nw Mu fun δ => whlL t fs fuel δ) := by
  refine (ps_while hp hc hb).imp fun Dn σ H ⟨ω, δ, S, s, q⟩ => ?_
  refine ⟨fun m σ3 H3 => ∃ ω3 δ3 S3, SR K cl own ω3 σ3 H3 δ3 S3 ∧ sG K cl own nw Mu ω3 H3 Dn (whlL t fs m δ3 S3), ⟨fuel, ω, δ, S, s, q⟩, ?_⟩
  rintro m σ3 H3 ⟨ω3, δ3, S3, s3, q3⟩
  cases m with
  | zero => exact q3.elim
  | succ m =>
    unfold whlL at q3
    refine ⟨ω3, δ3, S3, s3, sG_bind q3 fun ω4 k H4 k' S4 g4 s4 r4 q4 => ?_⟩
    subst r4
    cases k with
    | false => exact sG.nx q4 s4
    | true =>
      simp only [if_true] at q4 ⊢
      refine ⟨fun σ' H' => ∃ ω3 δ3 S3, SR K cl own ω3 σ' H' δ3 S3 ∧ sG K cl own nw Mu ω3 H' Dn (whlL t fs m δ3 S3), fun σ' H' z => ⟨m, Nat.lt_succ_self m, z⟩, ω4, δ3, S4, s4, ?_⟩
      rw [M.bind_run] at q4
      cases ef : fs δ3 S4 with
      | exc _ _ => rw [ef] at q4; exact q4.elim
      | no => rw [ef] at q4; exact q4.elim
      | ok fl S5 =>
        rw [ef] at q4
        cases fl with
        | nx δ5 => exact fun ω5 σ5 H5 g5 a5 s5 => ⟨ω5, δ5, S5, s5, sG.go q4 g5 a5⟩
        | bk δ5 => exact fun ω5 σ5 H5 g5 a5 s5 => q4 ω5 σ5 H5 g5 a5 s5
        | rt v => exact q4
end
end RF
end
section
set_option linter.all false
set_option maxRecDepth 100000
set_option maxHeartbeats 4000000
set_option autoImplicit false
/-! RfSnd16: calls that answer with something new; from a body to a def's promise. -/
namespace RF
open PySem PySem.Spec L2
open PyProof.Rows hiding St
section
variable (K : PySem.W.Frag) (cl : Nat → Addr)
def spOfN (ar : Nat) (g : List D → M D) : Sp := fun vs H Q _ => ∃ ω ds S, ω.ow = (fun _ => none) ∧ WOk ω H ∧ StoOk K cl ω H S ∧ vs.length = ar ∧ RepL K cl ω H vs ds ∧ (match g ds S with
  | .ok d S' => ∀ ω' a H', NewAt ω H ω' H' [a] → WOk ω' H' → StoOk K cl ω' H' S' → Own K cl ω' H' a d → Q (.ref a) H'
  | _ => False)
end
section
variable {X : Cx} {k : Nat} {f : Addr} {fd : FuncData} {ps : List Str} {sp : Sp} {K : PySem.W.Frag} {cl : Nat → Addr} {own : List Nat} {b : Bool}
theorem sp_ofN {ω : Wd} {H : Hp} {σ : L2.St} {δ : En} {S : Sto} {Q : VK} {ar : Nat} {g : List D → M D} {vs : List V} {ds : List D} {E : XK} (s : SR K cl own ω σ H δ S) (hl : vs.length = ar) (r : RepL K cl ω H vs ds)
    (q : nG K cl own ω H σ δ Q (g ds S)) : spOfN K cl ar g vs H Q E := by
  let ωc : Wd := { rho := ω.rho, ow := fun _ => none, av := fun a => ω.av a ∨ ∃ i, ω.ow i = some a }
  have e1 : ∀ a, ωc.bar a → ω.bar a := fun a z => by
    rcases z with z | ⟨i, z⟩ | z | z
    · exact .inl z
    · cases z
    · exact .inr (.inr z)
    · exact .inr (.inl z)
  refine ⟨ωc, ds, S, rfl, ⟨s.wok.nd, s.wok.rho, (fun i a z => nomatch z), (fun i j a z => nomatch z), fun a z => ?_⟩, ⟨s.sto.len, fun n a d h1 h2 => (s.sto.obj n a d h1 h2).as rfl e1⟩, hl, r.as rfl e1, ?_⟩
  · rcases z with z | ⟨i, z⟩
    · exact s.wok.av a z
    · exact ⟨(s.wok.ow i a z).1, (s.wok.ow i a z).2.1⟩
  · cases e : g ds S with
    | exc _ _ => rw [e] at q; exact q.elim
    | no => rw [e] at q; exact q.elim
    | ok d S' =>
      rw [e] at q
      intro ω' a H' n wok sto o
      have eo : ω'.ow = fun _ => none := n.eq
      let ω2 : Wd := { rho := ω'.rho, ow := ω.ow, av := fun b => ω.av b ∨ b = a }
      have e2 : ∀ c, ω2.bar c → ω'.bar c := fun c z => by
        rcases z with z | ⟨i, z⟩ | z | z
        · exact .inl z
        · exact .inr (.inr ((n.av c).mpr (.inl (.inr ⟨i, z⟩))))
        · exact .inr (.inr ((n.av c).mpr (.inl (.inl z))))
        · exact .inr (.inr ((n.av c).mpr (.inr (by simp [z]))))
      have g2 : GoS [] ω H ω2 H' := ⟨n.st.pre, fun c o h nn _ => n.st.keep c o h nn (fun _ z => nomatch z), n.st.tup, n.st.new, fun i c z => .inl z, fun c z => z.elim .inl fun y => .inr (.inl (n.new c (by simp [y]))), n.st.dom⟩
      have n2 : NewAt ω H ω2 H' [a] := ⟨g2, rfl, fun c => by show (ω.av c ∨ c = a) ↔ _; simp, n.nd, n.new⟩
      have wok2 : WOk ω2 H' := by
        refine ⟨wok.nd, wok.rho, fun i c z => ?_, s.wok.inj, fun c z => ?_⟩
        · have h := s.wok.ow i c z
          refine ⟨n.st.dom c h.1, n.st.new c h.1 h.2.1, fun y => ?_⟩
          rcases y with y | y
          · exact h.2.2 y
          · exact h.1 (n.new c (by simp [y]))
        · rcases z with z | z
          · have h := s.wok.av c z
            exact ⟨n.st.dom c h.1, n.st.new c h.1 h.2⟩
          · exact wok.av c ((n.av c).mpr (.inr (by simp [z])))
      have sto2 : StoOk K cl ω2 H' S' := ⟨sto.len, fun m c d h1 h2 => (sto.obj m c d h1 h2).as rfl e2⟩
      exact q ω2 a H' n2 (s.moveS g2 (fun _ _ z => nomatch z) (fun _ _ => rfl) wok2 sto2) (o.as rfl e2)
theorem rn_call {x : Str} {p pos : Pos} {e : Expr} {es : List Expr} {gs : En → M (List D)} {ar : Nat} {g : List D → M D} (F : FnR X.prog X.w X.K X.mg X.base k f fd ps (spOfN X.K cl ar g)) (hr : Room k X.A) (gd : X.A.guards = some []) (hg : Gl X x) (hm : X.mg x = some (.ref f)) (hk : PySem.W.keepIn X.K (.ref f) = true)
    (hb : Binds X.K fd ps []) (hdb : (x == ("__debug__" : Str)) = false) (ha : PA X (e :: es) (tA X.K cl own false gs)) (hs : okShape e = true ∧ es.all okShape = true) (hgl : ∀ δ S ds S', gs δ S = .ok ds S' → ds.length = ar) :
    PE X (.Call (.Name x p) (e :: es) [] pos) (tN1 X.K cl own fun δ => do g (← gs δ)) := by
  refine (pe_callR F hr gd hg hm hk hb ha hdb (shape_star hs.1) (noStar hs.2)).imp fun σ H Q ⟨ω, δ, S, s, q⟩ => ⟨ω, δ, S, s, ?_⟩
  dsimp only at q
  rw [M.bind_run] at q
  cases e : gs δ S with
  | exc _ _ => rw [e] at q; exact q.elim
  | no => rw [e] at q; exact q.elim
  | ok ds S1 =>
    rw [e] at q
    intro ω1 vs H1 g1 s1 r1
    exact sp_ofN s1 (by rw [r1.len]; exact hgl δ S ds S1 e) r1.l (nG.go q g1 s1.wok)
theorem rn_call0 {x : Str} {p pos : Pos} {g : List D → M D} (F : FnR X.prog X.w X.K X.mg X.base k f fd ps (spOfN X.K cl 0 g)) (hr : Room k X.A) (gd : X.A.guards = some []) (hg : Gl X x) (hm : X.mg x = some (.ref f)) (hk : PySem.W.keepIn X.K (.ref f) = true)
    (hb : Binds X.K fd ps []) (hdb : (x == ("__debug__" : Str)) = false) : PE X (.Call (.Name x p) [] [] pos) (tN1 X.K cl own fun δ => do g (← (pure [] : M (List D)))) :=
  (pe_callR0 F hr gd hg hm hk hb hdb).imp fun σ H Q ⟨ω, δ, S, s, q⟩ => sp_ofN s rfl RepL.nil q
/-! ### from a body to a promise -/
theorem start_get {N : List Str} {vs : List V} {ds : List D} {i : Nat} {d : D} (hl : vs.length = ds.length) (h : (ds.map some ++ List.replicate (N.length - ds.length) none)[i]? = some (some d)) : ∃ v, vs[i]? = some v ∧ ds[i]? = some d ∧ (start N vs)[i]? = some (some v) ∧ i < vs.length := by
  by_cases hi : i < ds.length
  · rw [List.getElem?_append_left (by simpa using hi)] at h
    have h2 : ds[i]? = some d := by
      rw [List.getElem?_map] at h
      cases e : ds[i]? with
      | none => rw [e] at h; cases h
      | some x => rw [e] at h; simpa using h
    have hv : i < vs.length := by omega
    refine ⟨vs[i], by simp [hv], h2, ?_, hv⟩
    unfold L2.start
    rw [List.getElem?_append_left (by simpa using hv)]
    simp [hv]
  · rw [List.getElem?_append_right (by simpa using hi)] at h
    rw [List.getElem?_replicate] at h
    split at h <;> cases h
theorem start_sr {N : List Str} {vs : List V} {ds : List D} {ω : Wd} {H : Hp} {S : Sto} (hN : vs.length ≤ N.length) (wok : WOk ω H) (sto : StoOk K cl ω H S) (r : RepL K cl ω H vs ds) (ho : ∀ i ∈ own, vs.length ≤ i) :
    SR K cl own ω (start N vs) H (ds.map some ++ List.replicate (N.length - ds.length) none) S := by
  have hl := r.1
  refine ⟨?_, wok, fun i d h1 h2 => ?_, fun i d h1 h2 => ?_, sto⟩
  · unfold L2.start
    simp [hl]
  · obtain ⟨v, h3, h4, h5, _⟩ := start_get hl h1
    exact ⟨v, h5, r.2 i v d h3 h4⟩
  · obtain ⟨v, _, _, _, h6⟩ := start_get hl h1
    exact absurd (ho i h2) (by omega)
variable {P : Program} {w : World} {mg : Str → Option Value} {base : Heap}
theorem fnr_body {name qual : Str} {params : Arguments} {body : List Stmt} {scope : Scope} {dV kV doc pm cdv ct oc : Value} {an od : Option Addr} {osl : Array (Option Value)} {N : List Str} {F : En → M Fl} {Mu : List Nat}
    (lk : K.lookup f = some ⟨oc, od, .func (PySem.W.fnOf name qual params body scope dV kV doc pm an cdv ct), osl⟩) (hcd : PySem.W.codeIn K cdv qual = true) (Sc : FnScope N ps scope) (ho : ∀ i ∈ own, ps.length ≤ i)
    (hb : ∀ (A : Around) (outer : List Env) (s : Shared) (H : Hp) (E : XK), Room k (A.deeper (envOfC qual scope s.heap.objs.size f cdv)) → (A.deeper (envOfC qual scope s.heap.objs.size f cdv)).guards = some [] →
      PSs (cxOf CX0 P w K mg base N qual scope f cdv A outer s H E).nox body (tS K cl own false Mu F)) :
    FnR P w K mg base (k + 1) f (PySem.W.fnOf name qual params body scope dV kV doc pm an cdv ct) ps (spOf K cl ps.length (runB F N.length)) := by
  refine fnr_of lk hcd Sc (fun vs H Q E ⟨_, _, _, _, _, _, h, _⟩ => h) fun A outer s H vs Q E hr gd hp => ⟨_, hb A outer s H E hr gd, ?_⟩
  obtain ⟨ω, ds, S, eo, wok, sto, hl, r, q⟩ := hp
  have hN : vs.length ≤ N.length := by
    have := congrArg List.length Sc.pre
    rw [List.length_take] at this
    omega
  refine ⟨ω, _, S, start_sr hN wok sto r (by rw [hl]; exact ho), ?_⟩
  unfold runB at q
  rw [M.bind_run] at q
  have go : ∀ (ω' : Wd) (H' : Hp), GoS Mu ω H ω' H' → ω'.av = ω.av → Go ω H ω'.noOw H' := fun ω' H' g ea => by
    refine ⟨⟨g.pre, fun a o h n _ => g.keep a o h n fun i _ z => (by rw [eo] at z; cases z), g.tup, g.new, (fun i a z => nomatch z), fun a z => g.av a z, g.dom⟩, eo.symm, ea⟩
  have hb2 : ∀ (ω' : Wd) b, ω'.noOw.bar b → ω'.bar b := fun ω' b z => by
    rcases z with z | ⟨i, z⟩ | z
    · exact .inl z
    · cases z
    · exact .inr (.inr z)
  cases e : F (ds.map some ++ List.replicate (N.length - ds.length) none) S with
  | exc _ _ => rw [e] at q; exact q.elim
  | no => rw [e] at q; exact q.elim
  | ok fl S' =>
    rw [e] at q
    cases fl with
    | nx δ' =>
      intro ω' σ' H' g ea s'
      have s2 := s'.leave
      exact q ω'.noOw .non H' (go ω' H' g ea) s2.wok s2.sto .non
    | bk δ' => exact q.elim
    | rt d =>
      intro ω' v H' g ea eo' wok' sto' r'
      refine q ω'.noOw v H' (go ω' H' g ea) ⟨wok'.nd, wok'.rho, (fun i a z => nomatch z), (fun i j a z => nomatch z), wok'.av⟩ ⟨sto'.len, fun n a d h1 h2 => (sto'.obj n a d h1 h2).as rfl (hb2 ω')⟩ (r'.as rfl (hb2 ω'))
theorem fnn_body {name qual : Str} {params : Arguments} {body : List Stmt} {scope : Scope} {dV kV doc pm cdv ct oc : Value} {an od : Option Addr} {osl : Array (Option Value)} {N : List Str} {F : En → M Fl} {Mu : List Nat}
    (lk : K.lookup f = some ⟨oc, od, .func (PySem.W.fnOf name qual params body scope dV kV doc pm an cdv ct), osl⟩) (hcd : PySem.W.codeIn K cdv qual = true) (Sc : FnScope N ps scope) (ho : ∀ i ∈ own, ps.length ≤ i)
    (hb : ∀ (A : Around) (outer : List Env) (s : Shared) (H : Hp) (E : XK), Room k (A.deeper (envOfC qual scope s.heap.objs.size f cdv)) → (A.deeper (envOfC qual scope s.heap.objs.size f cdv)).guards = some [] →
      PSs (cxOf CX0 P w K mg base N qual scope f cdv A outer s H E).nox body (tS K cl own true Mu F)) :
    FnR P w K mg base (k + 1) f (PySem.W.fnOf name qual params body scope dV kV doc pm an cdv ct) ps (spOfN K cl ps.length (runN F N.length)) := by
  refine fnr_of lk hcd Sc (fun vs H Q E ⟨_, _, _, _, _, _, h, _⟩ => h) fun A outer s H vs Q E hr gd hp => ⟨_, hb A outer s H E hr gd, ?_⟩
  obtain ⟨ω, ds, S, eo, wok, sto, hl, r, q⟩ := hp
  have hN : vs.length ≤ N.length := by
    have := congrArg List.length Sc.pre
    rw [List.length_take] at this
    omega
  refine ⟨ω, _, S, start_sr hN wok sto r (by rw [hl]; exact ho), ?_⟩
  unfold runN at q
  rw [M.bind_run] at q
  cases e : F (ds.map some ++ List.replicate (N.length - ds.length) none) S with
  | exc _ _ => rw [e] at q; exact q.elim
  | no => rw [e] at q; exact q.elim
  | ok fl S' =>
    rw [e] at q
    cases fl with
    | nx δ' => exact q.elim
    | bk δ' => exact q.elim
    | rt d =>
      intro ω' a H' g hn ea eo' wok' sto' o'
      have hnew : H a = none := by
        rcases hn with z | ⟨i, z⟩
        · exact z
        · rw [eo] at z; cases z
      exact q ω' a H' ⟨⟨g.pre, fun a o h n _ => g.keep a o h n fun i _ z => (by rw [eo] at z; cases z), g.tup, g.new, g.own, g.av, g.dom⟩, eo'.trans eo.symm, fun b => by rw [ea]; simp, by simp, fun b z => by simp at z; rw [z]; exact hnew⟩ wok' sto' o'
end
end RF
end
section
set_option linter.all false
set_option maxRecDepth 100000
set_option maxHeartbeats 4000000
set_option autoImplicit false
/-! RfSet: sets of texts; sorted(set(texts)). -/
namespace RF
open PySem PySem.Spec L2
open PyProof.Rows hiding St
theorem is_strX (P : Program) (w : World) (k : Str) (u : Tok) : (strKind P w).is k (.str k u) = true := by
  show Value.isStrOf k (.str k u) = true
  simp [Value.isStrOf]
def keyT (e : Int × Value) : Str := match e.2 with | .str k _ => k | _ => Str.empty
def GoodT (w : World) (e : Int × Value) : Prop := ∃ k tk, e.2 = Value.str k tk ∧ e.1 = hashStr w k
/-- the set of ints at a: S its members, n their number; its table rises and can be walked -/
def SetX (w : World) (h : Heap) (a : Addr) (S : Str → Bool) (n : Nat) : Prop :=
  ∃ o xs pc0 t, h.get? a = some o ∧ o.ExactSet ∧ o.data = .set xs pc0 t ∧ (∀ e ∈ xs.toList, GoodT w e) ∧ (xs.toList.map keyT).Nodup ∧ (∀ k, S k = true ↔ k ∈ xs.toList.map keyT) ∧
    xs.size < scanBound ∧ t.fits xs.size = true ∧ xs.size = n ∧ Ris t.place.toList ∧ (w.params.followText "set-order" = true ∨ t.led = true)
section
variable {P : Program} {w : World}
theorem goodT_elems {l : List (Int × Value)} (gd : ∀ e ∈ l, GoodT w e) : ElemsOf (strKind P w) l := fun e he => by
  obtain ⟨k, tk, h1, h2⟩ := gd e he
  exact ⟨⟨k, by rw [h1]; exact is_strX P w k tk, h2⟩, by rw [h1] <;> rfl⟩
theorem goodT_is {e : Int × Value} (gd : GoodT w e) (k : Str) : (strKind P w).is k e.2 = true ↔ keyT e = k := by
  obtain ⟨k1, tk, h1, _⟩ := gd
  unfold keyT
  rw [h1]
  show ((k1 == k) = true) ↔ k1 = k
  exact beq_iff_eq
theorem goodT_mem {l : List (Int × Value)} (gd : ∀ e ∈ l, GoodT w e) (k : Str) : k ∈ l.map keyT ↔ ∃ e ∈ l, (strKind P w).is k e.2 = true := by
  rw [List.mem_map]
  constructor
  · rintro ⟨e, he, qq⟩
    exact ⟨e, he, (goodT_is (gd e he) k).2 qq⟩
  · rintro ⟨e, he, qq⟩
    exact ⟨e, he, (goodT_is (gd e he) k).1 qq⟩
end
section
variable {P : Program} {w : World} {A : Around} {E : Value → Shared → Prop} {s : Shared} {a : Addr} {S : Str → Bool} {n : Nat}
theorem storeX {h : Heap} {a : Addr} {o : Obj} {xs es' : Array (Int × Value)} {pc0 : Nat} {t t' : SetTable} (hb0 : h.get? a = some o) (hd0 : o.data = .set xs pc0 t) :
    (h.update a (Obj.putSet es' t')).get? a = some { o with data := .set es' (pc0 + 1) t' } := by
  have qq := Heap.get?_update_self (Obj.putSet es' t') hb0 (by rw [putSet_of es' t' hd0]; rfl)
  rw [putSet_of es' t' hd0] at qq
  exact qq
theorem setX_tail {gd : Bool → Sem Unit} (hg : ∀ (b : Bool) (s₁ : Shared) (Q' : Unit → Shared → Prop), Q' () s₁ → wpAny (model P w) A (gd b) Q' E s₁)
    {o : Obj} {xs : Array (Int × Value)} {pc0 : Nat} {t : SetTable} (hb0 : s.heap.get? a = some o) (hx0 : o.ExactSet) (hd0 : o.data = .set xs pc0 t)
    {ys : Array (Int × Value)} {tb2 : SetTable} {S' : Str → Bool} (gd1 : ∀ e ∈ ys.toList, GoodT w e) (nd2 : (ys.toList.map keyT).Nodup) (mm1 : ∀ k, S' k = true ↔ k ∈ ys.toList.map keyT)
    (hbb1 : ys.size < scanBound) (hff2 : tb2.fits ys.size = true) (hrr : Ris tb2.place.toList) (hll : w.params.followText "set-order" = true ∨ tb2.led = true) {wd : Bool} {RR : Option Bool → Shared → Prop}
    (hRR : ∀ h', Heap.SameBut a s.heap h' → SetX w h' a S' ys.size → RR (some true) { s with heap := h' }) :
    wpAny (model P w) A (do
        storeSet a ys tb2
        if (!wd && tb2.tooFull) = true then do
            gd (relayAll tb2 ys (SetTable.grown ys.size)).2.2
            storeSet a (relayAll tb2 ys (SetTable.grown ys.size)).1 (relayAll tb2 ys (SetTable.grown ys.size)).2.1
            pure (some true)
          else pure (some true)) RR E s := by
  refine wpAny_bind (wpAny_storeSet_of hb0 hd0 ?_ (fits_of_scanBound hbb1))
  have hb01 := storeX (es' := ys) (t' := tb2) hb0 hd0
  have sbb1 := Heap.SameBut.update s.heap a (Obj.putSet ys tb2)
  split
  · have pp := relayAll_perm tb2 ys (SetTable.grown ys.size)
    have hff3 := relayAll_fits tb2 ys (SetTable.grown ys.size)
    have hrr3 := relayAll_ris tb2 ys (SetTable.grown ys.size)
    have hll3 := relayAll_led tb2 ys (SetTable.grown ys.size)
    generalize relayAll tb2 ys (SetTable.grown ys.size) = ZZ at pp hff3 hrr3 hll3 ⊢
    obtain ⟨zs, tb3, gv⟩ := ZZ
    dsimp only at pp hff3 hrr3 hll3 ⊢
    have hs1 : zs.size = ys.size := by rw [← Array.length_toList, pp.length_eq, Array.length_toList]
    have hbb2 : zs.size < scanBound := by rw [hs1]; exact hbb1
    refine wpAny_bind (hg _ _ _ ?_)
    refine wpAny_bind (wpAny_storeSet_of hb01 rfl ?_ (fits_of_scanBound hbb2))
    have hb02 := storeX (es' := zs) (t' := tb3) hb01 rfl
    refine wpAny_pure (hRR _ (sbb1.trans (Heap.SameBut.update _ a _)) ?_)
    exact ⟨_, zs, _, tb3, hb02, hx0, rfl, fun e he => gd1 e (pp.mem_iff.mp he), (pp.map keyT).nodup_iff.mpr nd2, fun k => (mm1 k).trans (pp.map keyT).mem_iff.symm, hbb2, hff3, hs1, hrr3,
      hll.imp id fun z => by rw [hll3]; exact z⟩
  · exact wpAny_pure (hRR _ sbb1 ⟨_, ys, _, tb2, hb01, hx0, rfl, gd1, nd2, mm1, hbb1, hff2, rfl, hrr, hll⟩)
theorem setX_hashed {k : Str} {tk : Tok} {Q : Bool → Shared → Prop} (RR : SetX w s.heap a S n) (room : n + 1 < scanBound)
    (hQQ : ∀ h', Heap.SameBut a s.heap h' → SetX w h' a (fun j => S j || decide (j = k)) (if S k = true then n else n + 1) → Q (!S k) { s with heap := h' }) :
    wpAny (model P w) A (setAddHashed a (.str k tk) ((strKind P w).hash k)) Q E s := by
  obtain ⟨o, xs, pc0, t, hb0, hx0, hd0, gd, ndp, hmm, hbb, hff, hnn, hrr, hll⟩ := RR
  have hkey1 : (strKind P w).is k (.str k tk) = true := is_strX P w k tk
  have hsc1 : (Value.str k tk).scannable = true := rfl
  have hel1 : ElemsOf (strKind P w) xs.toList := goodT_elems gd
  unfold setAddHashed setAddHashedIn
  refine wpAny_holding (wpAny_bind (wpAny_setState_of hb0 hd0 hff ?_))
  dsimp only
  rw [byScan_of hsc1 hbb hel1]
  simp only [↓reduceIte]
  unfold setAddByScan
  refine wpAny_bind ?_
  refine wpAny_bind (wpAny_rule ?_)
  refine wpAny_bind (wpAny_setScan_of hkey1 hb0 hd0 hff hel1 ?_)
  cases hfi1 : List.findIdx? (fun e => (strKind P w).is k e.2) xs.toList with
  | some j =>
    dsimp only
    obtain ⟨hj, pj, _⟩ := List.findIdx?_eq_some_iff_getElem.mp hfi1
    have hSk1 : S k = true := (hmm k).2 ((goodT_mem (P := P) (w := w) gd k).2 ⟨xs.toList[j], List.getElem_mem hj, pj⟩)
    refine wpAny_pure (wpAny_pure ?_)
    have qq := hQQ s.heap (Heap.SameBut.refl a s.heap) ⟨o, xs, pc0, t, hb0, hx0, hd0, gd, ndp, fun i => by
      rw [Bool.or_eq_true, decide_eq_true_eq, ← hmm i]
      exact ⟨fun z => z.elim id (fun e => e ▸ hSk1), .inl⟩, hbb, hff, by rw [if_pos hSk1]; exact hnn, hrr, hll⟩
    rw [hSk1] at qq
    exact qq
  | none =>
    dsimp only
    have hnk1 : k ∉ xs.toList.map keyT := fun z => by
      obtain ⟨e, he, qq⟩ := (goodT_mem (P := P) (w := w) gd k).1 z
      have c := List.findIdx?_eq_none_iff.mp hfi1 e he
      rw [qq] at c
      cases c
    have hSk1 : S k = false := by
      cases qq : S k with
      | false => rfl
      | true => exact absurd ((hmm k).1 qq) hnk1
    have hgw1 : ∀ (b : Bool) {s₁ : Shared} {Q' : Unit → Shared → Prop}, Q' () s₁ → wpAny (model P w) A (match b with | true => rule "set.scan.the-table-gave-way" | false => pure ()) Q' E s₁ :=
      fun b s₁ Q' qq => by cases b <;> first | exact wpAny_pure qq | exact wpAny_rule qq
    have pp := layNew_perm t xs ((strKind P w).hash k) (.str k tk)
    have hff1 := layNew_fits t xs ((strKind P w).hash k) (.str k tk)
    have hrr1 := layNew_ris t xs ((strKind P w).hash k) (.str k tk) hrr
    have hll1 := layNew_led t xs ((strKind P w).hash k) (.str k tk)
    generalize layNew t xs ((strKind P w).hash k) (.str k tk) = ZZ at pp hff1 hrr1 hll1 ⊢
    obtain ⟨ys, tb1, wd, gv⟩ := ZZ
    dsimp only at pp hff1 hrr1 hll1 ⊢
    rw [Array.toList_push] at pp
    have pq : ys.toList.Perm (((strKind P w).hash k, Value.str k tk) :: xs.toList) := pp.trans (List.perm_append_singleton _ _)
    have pk1 : (ys.toList.map keyT).Perm (k :: xs.toList.map keyT) := pq.map keyT
    have gd1 : ∀ e ∈ ys.toList, GoodT w e := fun e he => by
      rcases List.mem_cons.mp (pq.mem_iff.mp he) with z | z
      · rw [z]; exact ⟨k, tk, rfl, rfl⟩
      · exact gd e z
    have nd2 : (ys.toList.map keyT).Nodup := pk1.nodup_iff.mpr (List.nodup_cons.mpr ⟨hnk1, ndp⟩)
    have mm1 : ∀ i, (S i || decide (i = k)) = true ↔ i ∈ ys.toList.map keyT := fun i => by
      rw [Bool.or_eq_true, decide_eq_true_eq, hmm i, pk1.mem_iff, List.mem_cons]
      exact Or.comm
    have hs1 : ys.size = n + 1 := by rw [← Array.length_toList, pq.length_eq, List.length_cons, Array.length_toList, hnn]
    have hbb1 : ys.size < scanBound := by rw [hs1]; exact room
    have hled1 : w.params.followText "set-order" = true ∨ tb1.led = true := hll.imp id fun z => by rw [hll1]; exact z
    have finX : ∀ h', Heap.SameBut a s.heap h' → SetX w h' a (fun j => S j || decide (j = k)) ys.size → Q true { s with heap := h' } := fun h' sbb r => by
      have qq := hQQ h' sbb
      rw [hSk1] at qq
      rw [hs1] at r
      exact qq r
    refine wpAny_bind (hgw1 _ ?_)
    split
    · refine wpAny_bind ?_
      rw [hashByValue_scannable 8 hsc1]
      refine wpAny_pure ?_
      refine setX_tail ?_ hb0 hx0 hd0 gd1 nd2 mm1 hbb1 ?_ ?_ ?_ ?_
      · intro b s₁ Q' qq; cases b <;> first | exact wpAny_pure qq | exact wpAny_rule qq
      · first | (split <;> first | exact hff1 | exact SetTable.fits_plain_off hff1) | exact hff1
      · first | (split <;> exact hrr1) | exact hrr1
      · first | (split <;> exact hled1) | exact hled1
      · intro h' sbb r; dsimp only; exact wpAny_pure (finX h' sbb r)
    · refine wpAny_bind (wpAny_pure ?_)
      simp only [↓reduceIte]
      refine setX_tail ?_ hb0 hx0 hd0 gd1 nd2 mm1 hbb1 hff1 hrr1 hled1 ?_
      · intro b s₁ Q' qq; cases b <;> first | exact wpAny_pure qq | exact wpAny_rule qq
      · intro h' sbb r; dsimp only; exact wpAny_pure (finX h' sbb r)
end
end RF
end
section
set_option linter.all false
set_option maxRecDepth 100000
set_option maxHeartbeats 4000000
set_option autoImplicit false
/-! RfSet2: set(texts) and sorted(set(texts)). -/
namespace RF
open PySem PySem.Spec L2
open PyProof.Rows hiding St
theorem SetX.at {w : World} {h h' : Heap} {a : Addr} {S : Str → Bool} {n : Nat} (R : SetX w h a S n) (k : ∀ o, h.get? a = some o → h'.get? a = some o) : SetX w h' a S n := by
  obtain ⟨o, es, ep, t, ho, r⟩ := R
  exact ⟨o, es, ep, t, k o ho, r⟩
theorem SetX.congr {w : World} {h : Heap} {a : Addr} {S S' : Str → Bool} {n n' : Nat} (R : SetX w h a S n) (e : ∀ k, S k = S' k) (en : n = n') : SetX w h a S' n' := by
  have q : S = S' := funext e
  rw [← q, ← en]; exact R
section
variable {P : Program} {w : World} {A : Around} {E : Value → Shared → Prop} {s : Shared}
theorem code_set_newX (v : Value) {QQ : Value → Shared → Prop}
    (hx : QQ (.ref s.heap.objs.size) { s with heap := s.heap.push { cls := .type "set", dict := none, data := .set #[] 0 (.fresh 0 0 (!w.params.followText "set-order")) } }) :
    codeAny (model P w) A (.call (.builtin "set.__new__") ⟨[.type "set", v], []⟩) (wants QQ E) s := by
  refine codeAny_of_tree ?_
  show wpAny _ A.in1 (do checkBuiltinCall "set.__new__" ⟨[.type "set", v], []⟩; again (.builtin "set.__new__" ⟨[.type "set", v], []⟩)) _ _ s
  refine wpAny_bind (wpAny_of_eq (F.newCall_set_1 v) (wpAny_pure ⟨plainId_quiet F.plain_set_new _, codeAny_builtin F.entry_set_new ?_⟩))
  rw [Around.under_plainId F.plain_set_new _]
  unfold Builtin.«set.__new__» Builtin.Frozenset.newClass
  have hsub := sub_set_self
  obtain ⟨hpp, gg, dd, tkk, oss⟩ := s
  dsimp only
  wp_walk
  refine wpAny_askSetting (wpAny_pure ?_)
  dsimp only
  simp only [newObj]
  refine wpAny_bind (wpAny_alloc (wpAny_pure ?_))
  exact wpAny_pure hx
theorem setX_fresh {h : Heap} (w : World) : SetX w (h.push { cls := .type "set", dict := none, data := .set #[] 0 (.fresh 0 0 (!w.params.followText "set-order")) }) h.objs.size (fun _ => false) 0 :=
  ⟨_, #[], 0, _, Heap.get?_push_size _ rfl, ⟨rfl, rfl, rfl⟩, rfl, (fun e he => by simp at he), (by simp), (fun k => by simp), (by decide), (by rfl), rfl, List.Pairwise.nil, by
    show _ ∨ (!w.params.followText "set-order") = true
    cases w.params.followText "set-order"
    · exact .inr rfl
    · exact .inl rfl⟩
end
section
variable {prog : Program} {w : World} {A : Around} {R : Result → Shared → Prop} {I : Addr} {fp wr : List Addr} {G : Array GenState → Array GenState → Prop} {n : Nat} {P : Nat → Value → Prop} {St : Nat → Shared → Prop}
theorem loopX (W : WalksS prog w A.in1 I fp wr G n P St) (Z : Addr) (hZf : Z ∉ fp) (xs : List Str) (hsz : xs.length = n) (hn1 : n + 1 < scanBound)
    (hval : ∀ i v, P i v → ∃ t, v = .str (xs.getD i Str.empty) t) :
    ∀ (k i c : Nat) (s : Shared), n - i = k → i ≤ n → St i s → c ≤ i →
      SetX w s.heap Z (fun k' => (xs.take i).any (· == k')) c →
      (∀ s' c', Moved (Z :: wr) G s s' → c' ≤ n → SetX w s'.heap Z (fun k' => xs.any (· == k')) c' → R (.ok (.ret .none)) s') →
      codeAny (model prog w) A (.builtin "set.update.loop" ⟨[.ref Z, .ref I], []⟩) R s := by
  have hZw : Z ∉ wr := fun h => hZf (W.sub _ h)
  have hsub : ∀ b ∈ wr, b ∈ Z :: wr := fun b hb => List.mem_cons_of_mem _ hb
  intro k
  induction k with
  | zero =>
    intro i c s hk hi hst hc hS hR
    have hin : i = n := by omega
    subst hin
    refine codeAny_builtin PyProof.Rows.F.entry_set_update_loop ?_
    rw [Around.under_plainId PyProof.Rows.F.plain_set_update_loop _]
    show wpAny _ A.in1 (pyNext (.ref I) >>= _) _ _ s
    refine wpAny_bind (W.done s _ _ hst fun s' hm => ?_)
    show wpAny _ A.in1 (ret Value.none) _ _ s'
    refine wpAny_pure (hR s' c (hm.mono hsub) hc ((hS.at fun o e => hm.heap Z _ hZw e).congr (fun k' => ?_) rfl))
    rw [← hsz, List.take_length]
  | succ k ih =>
    intro i c s hk hi hst hc hS hR
    have hlt : i < n := by omega
    refine codeAny_builtin PyProof.Rows.F.entry_set_update_loop ?_
    rw [Around.under_plainId PyProof.Rows.F.plain_set_update_loop _]
    show wpAny _ A.in1 (pyNext (.ref I) >>= _) _ _ s
    refine wpAny_bind (W.item i s _ _ hlt hst fun v s' hP hst' hm => ?_)
    obtain ⟨t, rfl⟩ := hval i v hP
    have hS' : SetX w s'.heap Z (fun k' => (xs.take i).any (· == k')) c := hS.at fun o e => hm.heap Z _ hZw e
    show wpAny _ A.in1 (holding [Value.str (xs.getD i Str.empty) t] (setAdd Z (.str (xs.getD i Str.empty) t)) >>= _) _ _ s'
    refine wpAny_bind (wpAny_holding ?_)
    unfold setAdd
    refine wpAny_holding ?_
    refine wpAny_bind ((PySem.strKind prog w).pyHash (k := xs.getD i Str.empty) (strKind_is _ _ _ _) ?_)
    refine setX_hashed (s := { s' with toks := s'.toks + 1 }) hS' (by omega) fun h' hsb hS2 => ?_
    obtain ⟨c', hc', hSi⟩ : ∃ c', c' ≤ i + 1 ∧ SetX w h' Z (fun k' => (xs.take (i + 1)).any (· == k')) c' := by
      refine ⟨_, ?_, hS2.congr (fun k' => ?_) rfl⟩
      · split <;> omega
      · have hl : i < xs.length := by omega
        have e1 : xs.getD i Str.empty = xs[i] := by simp [List.getD, List.getElem?_eq_getElem hl]
        rw [List.take_succ, List.getElem?_eq_getElem hl, List.any_append, e1]
        show (_ || decide (k' = xs[i])) = (_ || ([xs[i]].any (· == k')))
        by_cases e : k' = xs[i]
        · rw [e]; simp
        · have hb : (xs[i] == k') = false := by simpa [beq_iff_eq] using (fun h' : xs[i] = k' => e h'.symm)
          simp [hb, e]
    refine wpAny_pure ⟨plainId_quiet PyProof.Rows.F.plain_set_update_loop _, ih (i + 1) c' _ (by omega) hlt (W.frame _ s' _ _ hst' (Nat.le_succ _) fun b hb o e => ?_) hc' hSi fun s'' c'' hm'' hc'' hS'' => ?_⟩
    · rw [hsb.2 b (fun h : b = Z => hZf (by rw [← h]; exact hb))]; exact e
    · refine hR s'' c'' (Moved.trans W.gtrans ((hm.mono hsub).then_heap (Nat.le_succ _) fun b o hb e => ?_) hm'') hc'' hS''
      rw [hsb.2 b (fun h : b = Z => hb (by rw [h]; exact List.mem_cons_self))]; exact e
end
section
variable {prog : Program} {w : World} {A : Around} {E : Value → Shared → Prop} {s : Shared}
theorem call_setX {l : Addr} {T : String} {items : Array Value} {xs : List Str} {Q : Value → Shared → Prop}
    (hh : A.handled = none) (hT : T = "list" ∨ T = "tuple") (hl : (T = "list" ∧ s.heap.IsList l items) ∨ (T = "tuple" ∧ s.heap.IsTuple l items)) (hi : PyProof.Rows.StrsAre items.toList xs) (hn1 : xs.length + 1 < scanBound)
    (hfin : ∀ (h' : Heap) (tk c : Nat), c ≤ xs.length → SetX w h' s.heap.objs.size (fun k' => xs.any (· == k')) c →
      (∀ b o, b < s.heap.objs.size → s.heap.get? b = some o → h'.get? b = some o) → s.heap.objs.size < h'.objs.size → Q (.ref s.heap.objs.size) { s with heap := h', toks := tk }) :
    wpAny (model prog w) A (call (.type "set") [.ref l]) Q E s := by
  obtain ⟨cc, tl, hmro⟩ := PySem.F.called_set.mro
  have hmade := PySem.F.called_set.made
  have hsub := PySem.F.called_set.sub
  refine wpAny_call (codeAny_of_tree ?_)
  show wpAny _ _ (callAny (.type "set") _) _ _ _
  refine wpAny_pure ⟨Code.quiet_builtin _ (by decide +kernel), codeAny_builtin PySem.F.entry_type_call ?_⟩
  rw [Around.under_plain (weight_type_call_type "set" [.ref l] []) rfl]
  have h1 := PySem.F.called_set.notType
  have h2 := PySem.F.called_set.canCreate
  have hct := PySem.F.typeCall_set_1 (.ref l)
  repeat (any_goals (first | assumption | wp_step))
  refine codeAny_mono (code_set_newX (.ref l) (E := E) (QQ := fun obj s₁ => obj = .ref s.heap.objs.size ∧ s₁ = { s with heap := s.heap.push { cls := .type "set", dict := none, data := .set #[] 0 (.fresh 0 0 (!w.params.followText "set-order")) } }) ⟨rfl, rfl⟩) fun r s₁ hr => ?_
  cases r with
  | error e => exact hr
  | ok fl =>
    cases fl with
    | ret obj =>
      obtain ⟨rfl, rfl⟩ := hr
      have hnew := setX_fresh (h := s.heap) w
      generalize eled : (!w.params.followText "set-order") = led at *
      have hS : (s.heap.push { cls := .type "set", dict := none, data := .set #[] 0 (.fresh 0 0 led) }).get? s.heap.objs.size = some { cls := .type "set", dict := none, data := .set #[] 0 (.fresh 0 0 led) } := Heap.get?_push_size _ rfl
      have hTT : Shared.TypeIs { s with heap := s.heap.push { cls := .type "set", dict := none, data := .set #[] 0 (.fresh 0 0 led) } } (.ref s.heap.objs.size) "set" := ⟨_, hS, rfl⟩
      have hli := PySem.F.called_set.init.lookup
      have hbi := PySem.F.called_set.init.bind (.ref s.heap.objs.size)
      repeat (any_goals (first | assumption | wp_step))
      refine codeAny_mono (codeAny_call_builtin (R := wants (fun r s₂ => r = .none ∧ ∃ h' tk c, s₂ = { s with heap := h', toks := tk } ∧ c ≤ xs.length ∧
          SetX w h' s.heap.objs.size (fun k' => xs.any (· == k')) c ∧
          (∀ b o, b < s.heap.objs.size → s.heap.get? b = some o → h'.get? b = some o)) E) PySem.F.called_set.init.plain PySem.F.entry_set_init (check_set_init_1 hTT ?_)) fun r₂ s₂ hr₂ => ?_
      · have fin0 : ∀ (s' : Shared) (c' : Nat), Moved (s.heap.objs.size :: [(s.heap.push { cls := .type "set", dict := none, data := .set #[] 0 (.fresh 0 0 led) }).objs.size]) Eq { s with heap := (s.heap.push { cls := .type "set", dict := none, data := .set #[] 0 (.fresh 0 0 led) }) } s' → True := fun _ _ _ => trivial
        have hlS : l < s.heap.objs.size := by
          rcases hl with ⟨_, ol, hol, _⟩ | ⟨_, ol, hol, _⟩ <;> exact Heap.lt_size hol
        have hh3 : A.in1.in1.in1.handled = none := by simp [hh]
        have hneI : l ≠ (s.heap.push { cls := .type "set", dict := none, data := .set #[] 0 (.fresh 0 0 led) }).objs.size := by
          rw [Heap.size_push]; exact Nat.ne_of_lt (Nat.lt_succ_of_lt hlS)
        have hSf : s.heap.objs.size ∉ [(s.heap.push { cls := .type "set", dict := none, data := .set #[] 0 (.fresh 0 0 led) }).objs.size, l] := by
          rw [Heap.size_push]; simp only [List.mem_cons, List.mem_singleton, List.not_mem_nil, or_false, not_or]
          exact ⟨Nat.ne_of_lt (Nat.lt_succ_self _), Nat.ne_of_gt hlS⟩
        have hsz : xs.length = items.size := by rw [← StrsAre.len_eq hi, Array.length_toList]
        have hval : ∀ (i : Nat) (v : Value), items[i]? = some v → ∃ t, v = .str (xs.getD i Str.empty) t := fun i v hv => SS.strs_at hi i v (by rw [Array.getElem?_toList]; exact hv)
        rcases hl with ⟨_, hl⟩ | ⟨_, hl⟩
        · obtain ⟨ol, hol, hcl, nl, hdl⟩ := hl
          obtain ⟨ocls, odict, odata, oslots⟩ := ol
          simp only at hcl hdl
          subst hcl; subst hdl
          have hol' : (s.heap.push { cls := .type "set", dict := none, data := .set #[] 0 (.fresh 0 0 led) }).get? l = some { cls := .type "list", dict := odict, data := .seq items nl, slots := oslots } := Heap.get?_push_of_some _ hol
          have hsls := PySem.F.sub_list_set
          have hslf := PySem.F.sub_list_frozenset
          have hne : (Value.type "list" == Value.type "dict") = false := by decide
          have hl1 : (s.heap.push { cls := .type "set", dict := none, data := .set #[] 0 (.fresh 0 0 led) }).IsList l items := ⟨_, hol', rfl, nl, rfl⟩
          unfold Builtin.«set.__init__» noKeywords Builtin.Frozenset.updateFrom
          generalize hPI : pyIter = PI
          wp_walk
          subst hPI
          refine wpAny_pyIter_list hl1 ?_
          refine wpAny_bind (wpAny_runValue ?_)
          refine loopX ((Walks.list hh3 _ l hneI items).toS) s.heap.objs.size
            hSf xs hsz (by rw [← hsz]; exact hn1) hval (items.size - 0) 0 0 _ (by omega) (Nat.zero_le _)
            ⟨⟨_, Heap.get?_push_size _ rfl, rfl, rfl⟩, (hl1.push _)⟩ (Nat.le_refl _) ?hS0 ?hR
          case hS0 => exact hnew.at fun o e => Heap.get?_push_of_some _ e
          case hR =>
            intro s' c' hm hc' hS'
            obtain ⟨h', g', d', tk', os'⟩ := s'
            have eg : g' = s.gens := hm.gens
            have ed : d' = s.drawn := hm.drawn
            have eo : os' = s.os := hm.os
            subst eg; subst ed; subst eo
            show wpAny _ _ _ _ _ _
            refine wpAny_pure ?_
            show wpAny _ _ (ret Value.none) _ _ _
            refine wpAny_pure ⟨rfl, h', tk', c', rfl, by rw [hsz]; exact hc', hS', fun b o hb e => ?_⟩
            have hb1 : b ≠ s.heap.objs.size := Nat.ne_of_lt hb
            have hb2 : b ≠ (s.heap.push { cls := .type "set", dict := none, data := .set #[] 0 (.fresh 0 0 led) }).objs.size := by
              rw [Heap.size_push]; exact Nat.ne_of_lt (Nat.lt_succ_of_lt hb)
            exact hm.heap b o (by simp only [List.mem_cons, List.mem_singleton, List.not_mem_nil, or_false, not_or]; exact ⟨hb1, hb2⟩) (Heap.get?_push_of_some _ (Heap.get?_push_of_some _ e))
        · obtain ⟨ol, hol, hcl, nl, hdl⟩ := hl
          obtain ⟨ocls, odict, odata, oslots⟩ := ol
          simp only at hcl hdl
          subst hcl; subst hdl
          have hol' : (s.heap.push { cls := .type "set", dict := none, data := .set #[] 0 (.fresh 0 0 led) }).get? l = some { cls := .type "tuple", dict := odict, data := .seq items nl, slots := oslots } := Heap.get?_push_of_some _ hol
          have hsls := PySem.F.sub_tuple_set
          have hslf := PySem.F.sub_tuple_frozenset
          have hne : (Value.type "tuple" == Value.type "dict") = false := by decide
          have hl1 : (s.heap.push { cls := .type "set", dict := none, data := .set #[] 0 (.fresh 0 0 led) }).IsTuple l items := ⟨_, hol', rfl, nl, rfl⟩
          unfold Builtin.«set.__init__» noKeywords Builtin.Frozenset.updateFrom
          generalize hPI : pyIter = PI
          wp_walk
          subst hPI
          refine wpAny_pyIter_tuple hl1 ?_
          refine wpAny_bind (wpAny_runValue ?_)
          refine loopX ((Walks.tuple hh3 _ l hneI items).toS) s.heap.objs.size
            hSf xs hsz (by rw [← hsz]; exact hn1) hval (items.size - 0) 0 0 _ (by omega) (Nat.zero_le _)
            ⟨⟨_, Heap.get?_push_size _ rfl, rfl, rfl⟩, (hl1.push _)⟩ (Nat.le_refl _) ?hS0 ?hR
          case hS0 => exact hnew.at fun o e => Heap.get?_push_of_some _ e
          case hR =>
            intro s' c' hm hc' hS'
            obtain ⟨h', g', d', tk', os'⟩ := s'
            have eg : g' = s.gens := hm.gens
            have ed : d' = s.drawn := hm.drawn
            have eo : os' = s.os := hm.os
            subst eg; subst ed; subst eo
            show wpAny _ _ _ _ _ _
            refine wpAny_pure ?_
            show wpAny _ _ (ret Value.none) _ _ _
            refine wpAny_pure ⟨rfl, h', tk', c', rfl, by rw [hsz]; exact hc', hS', fun b o hb e => ?_⟩
            have hb1 : b ≠ s.heap.objs.size := Nat.ne_of_lt hb
            have hb2 : b ≠ (s.heap.push { cls := .type "set", dict := none, data := .set #[] 0 (.fresh 0 0 led) }).objs.size := by
              rw [Heap.size_push]; exact Nat.ne_of_lt (Nat.lt_succ_of_lt hb)
            exact hm.heap b o (by simp only [List.mem_cons, List.mem_singleton, List.not_mem_nil, or_false, not_or]; exact ⟨hb1, hb2⟩) (Heap.get?_push_of_some _ (Heap.get?_push_of_some _ e))
      · cases r₂ with
        | error e => exact hr₂
        | ok fl₂ =>
          cases fl₂ with
          | ret r =>
            obtain ⟨rfl, h', tk, c, rfl, hc, hS', hk'⟩ := hr₂
            repeat (any_goals (first | assumption | wp_step))
            exact hfin _ _ c hc hS' hk' (by obtain ⟨o, _, _, _, ho, _⟩ := hS'; exact Heap.lt_size ho)
          | _ => exact hr₂.elim
    | _ => exact hr.elim
end
end RF
end
section
set_option linter.all false
set_option maxRecDepth 100000
set_option maxHeartbeats 4000000
set_option autoImplicit false
/-! RfSet3: sorted(set(texts)). -/
namespace RF
open PySem PySem.Spec L2
open PyProof.Rows hiding St
section
variable {P : Program} {w : World} {A : Around} {E : Value → Shared → Prop} {s : Shared} {a : Addr} {S : Str → Bool} {n : Nat}
def kyV (v : Value) : Str := match v with | .str k _ => k | _ => Str.empty
theorem strs_ofX : ∀ (l : List Value), (∀ v ∈ l, ∃ k tk, v = Value.str k tk) → StrsAre l (l.map kyV)
  | [], _ => .nil
  | v :: l, h => by
    obtain ⟨k, tk, rfl⟩ := h v List.mem_cons_self
    exact .cons k tk (strs_ofX l fun u hu => h u (List.mem_cons_of_mem _ hu))
theorem sortedX_set {Q : Value → Shared → Prop} (R : SetX w s.heap a S n) (hh : A.handled = none) (h64 : n < 64)
    (hfin : ∀ s' p (out : Array Value) (c : Nat) (ys : List Str), (∀ b o, s.heap.get? b = some o → s'.heap.get? b = some o) → s'.gens = s.gens → s'.os = s.os → s.heap.objs.size ≤ p →
      s'.heap.get? p = some (seqObj "list" out c) → StrsAre out.toList ys → sortedS ys = true → ys.Nodup → (∀ k, k ∈ ys ↔ S k = true) → ys.length = n → Q (.ref p) s') :
    wpAny (model P w) A (call (.builtin "sorted") [.ref a]) Q E s := by
  obtain ⟨o, es, ep, t, ho, hex, hd, g, nd, hm, hb, hf, hn, hr, hl⟩ := R
  refine Calls.call_function_entry kind_sorted plain_sorted entry_sorted (args_sorted1 _) ?_
  unfold Builtin.«sorted»
  refine wpAny_bind (m := checkCount "sorted" 1 1 _) (wpAny_pure ?_)
  refine wpAny_bind (collect_set (A := A.in1) hh ⟨o, ho, hex.1, hd⟩ hf hb hr hl fun s1 vs k1 hz g1 o1 pm => ?_)
  have hvl : vs.length = n := by rw [pm.length_eq, List.length_map, Array.length_toList]; exact hn
  have hI : StrsAre vs (vs.map kyV) := strs_ofX vs fun v hv => by
    obtain ⟨e, he, q⟩ := List.mem_map.mp (pm.mem_iff.mp hv)
    obtain ⟨k, tk, h1, _⟩ := g e he
    exact ⟨k, tk, by rw [← q]; exact h1⟩
  have pk : (vs.map kyV).Perm (es.toList.map keyT) := by
    have q := pm.map kyV
    rw [List.map_map] at q
    exact q
  refine wpAny_bind (wpAny_newList ?_ (by rw [hvl, sizeLine_eq]; omega))
  have hoL : (s1.heap.push (seqObj "list" vs.toArray 0)).get? s1.heap.objs.size = some (seqObj "list" vs.toArray 0) := Heap.get?_push_size _ rfl
  refine wpAny_bind (wpAny_holding (wpAny_call_entry slot_list_sort ⟨_, hoL, rfl⟩ entry_list_sort
    (list_sort_treeK strKind_oneLt hoL hI.keysOf (fun v₁ v₂ rest e => keyKind_strs (by rw [← e]; exact hI)) (by rw [hvl]; exact h64) fun st' hp hs => ⟨_, rfl, ?_⟩) (args_list_sort _)))
  obtain ⟨ys, a1, a2, a3⟩ := sorted_out_str hI hp hs
  obtain ⟨c, hc⟩ := sortedHeap_at (vs := vs) (out := (arrOf st').map (·.2)) hoL
  have pn : ys.Perm (es.toList.map keyT) := a2.trans pk
  refine wpAny_pure ⟨_, rfl, hfin _ s1.heap.objs.size ((arrOf st').map (·.2)) c ys (fun b u e => ?_) g1 o1 hz hc a1 a3 (pn.nodup_iff.mpr nd) (fun k => by rw [pn.mem_iff, ← hm k]) ?_⟩
  · have q := k1 b u e
    have hlt := Heap.lt_size q
    show (sortedHeap (s1.heap.push (seqObj "list" vs.toArray 0)) s1.heap.objs.size vs ((arrOf st').map (·.2))).get? b = some u
    rw [sortedHeap_old (Nat.ne_of_lt hlt) (by rw [size_push']; exact Nat.lt_succ_of_lt hlt)]
    exact Heap.get?_push_of_some _ q
  · rw [pn.length_eq, List.length_map, Array.length_toList]; exact hn
end
/-! ### in ascending order, each once -/
theorem mem_insertU (x y : Str) : ∀ l : List Str, y ∈ insertU x l ↔ y = x ∨ y ∈ l
  | [] => by simp [insertU]
  | z :: r => by
    unfold insertU
    split
    · rename_i e
      subst e
      simp
    · split
      · simp
      · rw [List.mem_cons, mem_insertU x y r, List.mem_cons]
        exact ⟨fun h => by rcases h with h | h | h <;> simp [h], fun h => by rcases h with h | h | h <;> simp [h]⟩
theorem mem_sortU (y : Str) : ∀ l : List Str, y ∈ sortU l ↔ y ∈ l
  | [] => Iff.rfl
  | x :: r => by
    show y ∈ insertU x (sortU r) ↔ _
    rw [mem_insertU, mem_sortU y r, List.mem_cons]
theorem insertU_sorted (x : Str) : ∀ l : List Str, l.Pairwise (fun a b => strLe a b = true) → (insertU x l).Pairwise fun a b => strLe a b = true
  | [], _ => List.pairwise_singleton _ _
  | y :: r, h => by
    obtain ⟨h1, h2⟩ := List.pairwise_cons.mp h
    unfold insertU
    split
    · exact h
    · split
      · rename_i c
        refine List.pairwise_cons.mpr ⟨fun a ha => ?_, h⟩
        rcases List.mem_cons.mp ha with e | e
        · rw [e]; exact c
        · exact strLe_trans c (h1 a e)
      · rename_i c
        refine List.pairwise_cons.mpr ⟨fun a ha => ?_, insertU_sorted x r h2⟩
        rcases (mem_insertU x a r).mp ha with e | e
        · rw [e]
          rcases strLe_total x y with z | z
          · exact absurd z c
          · exact z
        · exact h1 a e
theorem sortU_sorted : ∀ l : List Str, (sortU l).Pairwise fun a b => strLe a b = true
  | [] => List.Pairwise.nil
  | x :: r => insertU_sorted x _ (sortU_sorted r)
theorem insertU_nodup (x : Str) : ∀ l : List Str, l.Nodup → l.Pairwise (fun a b => strLe a b = true) → (insertU x l).Nodup
  | [], _, _ => by simp [insertU]
  | y :: r, h, o => by
    obtain ⟨h1, h2⟩ := List.nodup_cons.mp h
    obtain ⟨o1, o2⟩ := List.pairwise_cons.mp o
    unfold insertU
    split
    · exact h
    · rename_i ne
      split
      · rename_i c
        refine List.nodup_cons.mpr ⟨fun z => ?_, h⟩
        rcases List.mem_cons.mp z with e | e
        · exact ne e
        · exact ne (strLe_anti c (o1 x e))
      · refine List.nodup_cons.mpr ⟨fun z => ?_, insertU_nodup x r h2 o2⟩
        rcases (mem_insertU x y r).mp z with e | e
        · exact ne e.symm
        · exact h1 e
theorem sortU_nodup : ∀ l : List Str, (sortU l).Nodup
  | [] => List.nodup_nil
  | x :: r => insertU_nodup x _ (sortU_nodup r) (sortU_sorted r)
theorem sortU_eq {ys xs : List Str} (h : sortedS ys = true) (nd : ys.Nodup) (m : ∀ k, k ∈ ys ↔ k ∈ xs) : ys = sortU xs := by
  have p : ys.Perm (sortU xs) := (List.perm_ext_iff_of_nodup nd (sortU_nodup xs)).mpr fun k => (m k).trans (mem_sortU k xs).symm
  have e := sortedS_eq p h
  rw [e]
  exact sorted_eq (sortS_perm _) (sortS_sorted _) (sortU_sorted xs)
end RF
end
section
set_option linter.all false
set_option maxRecDepth 100000
set_option maxHeartbeats 4000000
set_option autoImplicit false
/-! RfSrt: sorted(set(..)) of texts, as a term. -/
namespace RF
open PySem PySem.Spec L2
open PyProof.Rows hiding St
section
variable {X : Cx}
def tSrt (K : PySem.W.Frag) (ta : TE) : TE := fun σ H Q => ta σ H fun x H1 => ∃ l, ∃ xs : List Str, x = .ref l ∧ (SqL K H1 l (xs.map V.str) ∨ SqT K H1 l (xs.map V.str)) ∧ xs.length < 64 ∧
  ∀ p, H1 p = none → Q (.ref p) (upd H1 p (.lst ((sortU xs).map V.str)))
theorem pe_srt {ea : Expr} {ta : TE} {p p2 q pos : Pos} (hc : X.calm = true) (hg : Gl X "sorted") (hm : X.mg "sorted" = none) (hg2 : Gl X "set") (hm2 : X.mg "set" = none) (ha : PE X ea ta)
    (na : starEach [ea] X.env = (false, eval ea X.env) :: starEach [] X.env) : PE X (.Call (.Name "sorted" p) [.Call (.Name "set" p2) [ea] [] q] [] pos) (tSrt X.K ta) := by
  refine ⟨fun pins s σ H Q I h => ?_⟩
  refine Call_ (ld_blt I hg hm (by decide +kernel : bootBuiltins "sorted" = some (.builtin "sorted")) ?_)
  refine PyProof.Rows.callWith_builtin1 (PyProof.Rows.args_cons ?_ rfl) rfl rfl
  refine Call_ (ld_blt I hg2 hm2 boot_set ?_)
  refine PyProof.Rows.callWith_type1 (PyProof.Rows.args_cons (thn (ha.run pins s σ H _ I h) fun v s1 ⟨x, H1, I1, r1, q1⟩ => PyProof.Rows.args_nil ?_) na) na rfl
  obtain ⟨l, xs, rfl, hq, h64, q1⟩ := q1
  cases r1
  have hh : X.A.handled = none := I1.ok.hd hc
  obtain ⟨T, its, hT, hl, rs⟩ : ∃ (T : String) (its : List Value), (T = "list" ∨ T = "tuple") ∧ ((T = "list" ∧ s1.heap.IsList l its.toArray) ∨ (T = "tuple" ∧ s1.heap.IsTuple l its.toArray)) ∧ Vals (xs.map V.str) its := by
    rcases hq with hq | hq
    · obtain ⟨its, r, pl, hz⟩ := I1.list hq
      exact ⟨"list", its, .inl rfl, .inl ⟨rfl, pl.isList⟩, r⟩
    · obtain ⟨its, r, pl, hz⟩ := I1.tuple hq
      exact ⟨"tuple", its, .inr rfl, .inr ⟨rfl, pl⟩, r⟩
  refine call_setX hh hT hl (by simpa using strsAre_of rs) (by unfold scanBound; omega) fun h' tk c hcx hS hk hlt => ?_
  refine PyProof.Rows.args_nil ?_
  have I2 : Inv X pins σ H1 { s1 with heap := h', toks := tk } := I1.kept fun b o e => hk b o (Heap.lt_size e) e
  have hS2 : SetX X.w ({ s1 with heap := h', toks := tk } : Shared).heap s1.heap.objs.size (fun k' => xs.any (· == k')) c := hS
  generalize ({ s1 with heap := h', toks := tk } : Shared) = s2 at I2 hS2 ⊢
  refine sortedX_set hS2 hh (by omega) fun s' p out c' ys k g o hp hg' hi hs hnd hmm hl' => ?_
  have hlen : (ys.map V.str).length ≤ sizeLine := by rw [List.length_map, hl', sizeLine_eq]; omega
  have hn : H1 p = none := I2.hok.fresh hp
  have J : Inv X pins σ (upd H1 p (.lst (ys.map V.str))) { s2 with heap := s'.heap, gens := s'.gens, drawn := s'.drawn, toks := s'.toks } :=
    I2.call (ch := []) (Un.laid k hp hn) (I2.hok.laid k hp ⟨hlen, out.toList, c', vals_of_strs hi, hg'⟩) (by rw [g]; exact I2.bare) (fun _ z => nomatch z)
  have e : s' = { s2 with heap := s'.heap, gens := s'.gens, drawn := s'.drawn, toks := s'.toks } := by
    cases s'
    cases s2
    cases o
    rfl
  rw [e]
  have ey : ys = sortU xs := sortU_eq hs hnd fun k => by
    rw [hmm k]
    simp
  subst ey
  exact ⟨.ref p, _, J, rfl, q1 p hn⟩
end
section
variable {X : Cx} {cl : Nat → Addr} {own : List Nat}
theorem rn_srt {ea : Expr} {f : En → M D} {p p2 q pos : Pos} (hc : X.calm = true) (hg : Gl X "sorted") (hm : X.mg "sorted" = none) (hg2 : Gl X "set") (hm2 : X.mg "set" = none) (ha : PE X ea (tE X.K cl own true f)) (hs : okShape ea = true) :
    PE X (.Call (.Name "sorted" p) [.Call (.Name "set" p2) [ea] [] q] [] pos) (tN1 X.K cl own fun δ => do srtF (← f δ)) := by
  refine (pe_srt hc hg hm hg2 hm2 ha (shape_star hs)).imp fun σ H Q ⟨ω, δ, S, s, qq⟩ => ?_
  refine ⟨ω, δ, S, s, nG_bind qq fun ω1 v H1 x S1 g1 s1 r1 q1 => ?_⟩
  simp only [srtF] at q1
  cases e : seqOf x with
  | none => rw [e] at q1; exact q1.elim
  | some l =>
    rw [e] at q1
    dsimp only at q1
    cases e2 : strsOf l with
    | none => rw [e2] at q1; exact q1.elim
    | some xs =>
      rw [e2] at q1
      dsimp only at q1
      by_cases hz : xs.length < 64
      · simp only [if_pos hz] at q1
        cases x with
        | lst l' =>
          cases e
          obtain ⟨a, vs, rfl, hl, ra⟩ := RepB.seqL r1
          obtain rfl := rep_strs ra e2
          exact ⟨a, xs, rfl, .inl hl, hz, fun p hp => nG.mk q1 s1 hp ⟨_, upd_same, (repL_strs _).plus hp⟩⟩
        | tup l' =>
          cases e
          obtain ⟨a, vs, rfl, hl, ra⟩ := (RepB.tup r1).seqT
          obtain rfl := rep_strs ra e2
          exact ⟨a, xs, rfl, .inr hl, hz, fun p hp => nG.mk q1 s1 hp ⟨_, upd_same, (repL_strs _).plus hp⟩⟩
        | _ => cases e
      · rw [if_neg hz] at q1
        exact q1.elim
end
end RF
end
section
set_option linter.all false
set_option maxRecDepth 100000
set_option maxHeartbeats 4000000
set_option autoImplicit false
/-! RfKw: calls with keywords. -/
namespace RF
open PySem PySem.Spec L2
open PyProof.Rows hiding St
def simpB (p : Arguments) (ps : List Str) : Bool := p.posonlyargs.isEmpty && (p.vararg.isNone && (p.kwonlyargs.isEmpty && (p.kwarg.isNone && decide (p.args.map (·.arg) = ps))))
theorem loop_kw {f : Str × Value → (List (Str × Value) × List (Str × Value)) → Sem (ForInStep (List (Str × Value) × List (Str × Value)))} : ∀ (kw sl : List (Str × Value)), (∀ x ∈ kw, ∀ sl : List (Str × Value), sl.lookup x.1 = none → f x (sl, []) = pure (.yield (sl ++ [x], []))) →
    (kw.map (·.1)).Nodup → (∀ x ∈ kw, sl.lookup x.1 = none) → forIn kw (sl, []) f = pure (sl ++ kw, [])
  | [], sl, _, _, _ => by rw [List.forIn_nil, List.append_nil]
  | x :: kw, sl, hf, hn, hs => by
    rw [List.forIn_cons, hf x (by simp) sl (hs x (by simp))]
    rw [List.map_cons, List.nodup_cons] at hn
    have ih := loop_kw kw (sl ++ [x]) (fun y hy => hf y (List.mem_cons_of_mem _ hy)) hn.2 (fun y hy => by
      rw [List.lookup_append, hs y (List.mem_cons_of_mem _ hy)]
      have hne : ¬ y.1 = x.1 := fun z => hn.1 (z ▸ List.mem_map_of_mem (f := (·.1)) hy)
      simp [List.lookup_cons, hne])
    simp only [pure_bind]
    rw [ih]
    simp
theorem lookup_zip_none {ps : List Str} {us : List Value} {n : Str} (h : n ∉ ps) : (ps.zip us).lookup n = none := by
  rw [List.lookup_eq_none_iff]
  intro z hz
  have := (List.of_mem_zip hz).1
  simp only [bne_iff_ne, ne_eq]
  intro e
  exact h (e ▸ this)
theorem lookup_zip_some : ∀ {ks : List Str} {ws : List Value} {n : Str}, ks.length = ws.length → n ∈ ks → ∃ v, (ks.zip ws).lookup n = some v
  | [], _, _, _, h => nomatch h
  | k :: ks, [], _, hl, _ => by simp at hl
  | k :: ks, w :: ws, n, hl, h => by
    rw [List.zip_cons_cons, List.lookup_cons]
    cases e : n == k with
    | true => exact ⟨w, rfl⟩
    | false =>
      rcases List.mem_cons.mp h with z | z
      · rw [z] at e; simp at e
      · exact lookup_zip_some (by simpa using hl) z
theorem map_lookup : ∀ {ps : List Str} {us : List Value}, ps.Nodup → us.length = ps.length → ps.map (fun n => ((ps.zip us).lookup n).getD .none) = us
  | [], us, _, hl => by
    have := List.length_eq_zero_iff.mp hl
    subst this
    rfl
  | p :: ps, [], _, hl => by simp at hl
  | p :: ps, u :: us, nd, hl => by
    rw [List.nodup_cons] at nd
    have ih := map_lookup (us := us) nd.2 (by simpa using hl)
    rw [List.map_cons]
    congr 1
    · simp [List.lookup_cons]
    · conv => rhs; rw [← ih]
      refine List.map_congr_left fun n hn => ?_
      have : (n == p) = false := by
        simp only [beq_eq_false_iff_ne]
        exact fun z => nd.1 (z ▸ hn)
      rw [List.zip_cons_cons, List.lookup_cons, this]
theorem bind_kw {x qual : Str} {params : Arguments} {body : List Stmt} {scope : Scope} {ps : List Str} (h : simpB params ps = true) (nd : ps.Nodup) (kV doc pm : Value) (an : Option Addr) (cdv ct : Value) (us ws : List Value) (ks : List Str) (hk : ks.Nodup) (hw : ks.length = ws.length) (hl : us.length + ks.length = ps.length) (hs : ∀ p ∈ ps.drop us.length, p ∈ ks) (hs2 : ∀ p ∈ ks, p ∈ ps.drop us.length) :
    bindArgs (PySem.W.fnOf x qual params body scope .none kV doc pm an cdv ct) ⟨us, ks.zip ws⟩ = pure (ps.zip (us ++ (ps.drop us.length).map fun p => ((ks.zip ws).lookup p).getD .none)) := by
  obtain ⟨po, ar, va, ko, kd, kw, df⟩ := params
  simp only [simpB, Bool.and_eq_true, List.isEmpty_iff, Option.isNone_iff_eq_none, decide_eq_true_eq] at h
  obtain ⟨rfl, rfl, rfl, rfl, h⟩ := h
  have hmul : us.length ≤ ps.length := by omega
  -- the slots
  have e1 : ps.zip us = (ps.take us.length).zip us := by
    conv => lhs; rw [← List.take_append_drop us.length ps]
    have : us = us ++ [] := by simp
    conv => lhs; rw [this]
    rw [List.zip_append (by simp [hmul])]
    simp
  have ndT : (ps.take us.length).Nodup := nd.sublist (List.take_sublist _ _)
  have dis : ∀ p ∈ ps.drop us.length, p ∉ ps.take us.length := fun p hp hq => by
    have := nd
    rw [← List.take_append_drop us.length ps, List.nodup_append] at this
    exact this.2.2 p hq p hp rfl
  have keys : (ks.zip ws).map (·.1) = ks := by
    rw [List.map_fst_zip]
    omega
  have mem : ∀ y ∈ ks.zip ws, y.1 ∈ ks := fun y hy => (List.of_mem_zip hy).1
  have noT : ∀ y ∈ ks.zip ws, (ps.zip us).lookup y.1 = none := fun y hy => by
    rw [e1]
    exact lookup_zip_none (dis _ (hs2 _ (mem y hy)))
  unfold bindArgs PySem.W.fnOf
  simp only [h, List.map_nil, List.nil_append, List.append_nil]
  rw [loop_kw (ks.zip ws) (ps.zip us) (fun y hy sl hsl => by
    have hc : ps.contains y.1 = true := List.contains_iff_mem.mpr (List.mem_of_mem_drop (hs2 _ (mem y hy)))
    have hno : (List.lookup y.1 sl).isSome = false := by rw [hsl]; rfl
    simp only [hc, Bool.true_or, if_true, hno, Bool.false_eq_true, if_false]) (by rw [keys]; exact hk) noT]
  have val : ∀ n ∈ ps, ∃ v, (ps.zip us ++ ks.zip ws).lookup n = some v := fun n hn => by
    rw [List.lookup_append]
    rw [← List.take_append_drop us.length ps] at hn
    rcases List.mem_append.mp hn with z | z
    · obtain ⟨v, hv⟩ := lookup_zip_some (ws := us) (by simp [hmul]) z
      rw [e1, hv]
      exact ⟨v, rfl⟩
    · obtain ⟨v, hv⟩ := lookup_zip_some hw (hs n z)
      rw [e1, lookup_zip_none (dis n z), hv]
      exact ⟨v, rfl⟩
  have miss : (ps.filter fun n => (List.lookup n (ps.zip us ++ ks.zip ws)).isNone) = [] := by
    rw [List.filter_eq_nil_iff]
    intro n hn
    obtain ⟨v, hv⟩ := val n hn
    simp [hv]
  have fin : (ps.filterMap fun n => ((ps.zip us ++ ks.zip ws).lookup n).map fun u => (n, u)) = ps.zip (us ++ (ps.drop us.length).map fun p => ((ks.zip ws).lookup p).getD .none) := by
    have f1 : (ps.filterMap fun n => ((ps.zip us ++ ks.zip ws).lookup n).map fun u => (n, u)) = ps.map fun n => (n, ((ps.zip us ++ ks.zip ws).lookup n).getD .none) := by
      have gen : ∀ l : List Str, (∀ n ∈ l, n ∈ ps) → (l.filterMap fun n => ((ps.zip us ++ ks.zip ws).lookup n).map fun u => (n, u)) = l.map fun n => (n, ((ps.zip us ++ ks.zip ws).lookup n).getD .none) := by
        intro l
        induction l with
        | nil => intro _; rfl
        | cons n l ih =>
          intro hl
          obtain ⟨v, hv⟩ := val n (hl n (by simp))
          rw [List.filterMap_cons, hv, List.map_cons, hv, ← ih fun m hm => hl m (List.mem_cons_of_mem _ hm)]
          rfl
      exact gen ps fun _ h => h
    have f2 : ∀ (l : List Str) (g : Str → Value), (l.map fun n => (n, g n)) = l.zip (l.map g) := by
      intro l g
      induction l with
      | nil => rfl
      | cons a l ih => simp [ih]
    rw [f1, f2]
    congr 1
    conv => lhs; rw [show ps.map (fun n => ((ps.zip us ++ ks.zip ws).lookup n).getD .none) = (ps.take us.length ++ ps.drop us.length).map (fun n => ((ps.zip us ++ ks.zip ws).lookup n).getD .none) by rw [List.take_append_drop]]
    rw [List.map_append]
    congr 1
    · have := map_lookup (us := us) ndT (by simp [hmul])
      conv => rhs; rw [← this]
      refine List.map_congr_left fun n hn => ?_
      obtain ⟨v, hv⟩ := lookup_zip_some (ws := us) (by simp [hmul]) hn
      rw [List.lookup_append, e1, hv]
      rfl
    · refine List.map_congr_left fun n hn => ?_
      rw [List.lookup_append, e1, lookup_zip_none (dis n hn)]
      rfl
  have h3 : ¬ ps.length < us.length := by omega
  simp [seqItems?, h3, miss, fin]
  rfl
/-- how a def binds what is given by place and by name -/
def KwB (fd : FuncData) (ps : List Str) : Prop := ∀ (s : Shared) (us ws : List Value) (ks : List Str), ks.Nodup → ks.length = ws.length → us.length + ks.length = ps.length → (∀ p ∈ ps.drop us.length, p ∈ ks) → (∀ p ∈ ks, p ∈ ps.drop us.length) →
  BindsTo s fd ⟨us, ks.zip ws⟩ (ps.zip (us ++ (ps.drop us.length).map fun p => ((ks.zip ws).lookup p).getD .none))
theorem kwB {K : PySem.W.Frag} {x qual : Str} {params : Arguments} {body : List Stmt} {scope : Scope} {a : Addr} {fd : FuncData} {ps : List Str} (F : FunD K x qual params body scope [] [] a fd) (h : simpB params ps = true) (nd : ps.Nodup) : KwB fd ps := by
  obtain ⟨oc, od, dV, kV, doc, pm, an, cdv, ct, osl, rfl, lk, hcd, hD, hK⟩ := F.ex
  rcases hD with ⟨_, rfl⟩ | ⟨e, _⟩
  · exact fun s us ws ks h1 h2 h3 h4 h5 => .of_eq (bind_kw h nd kV doc pm an cdv ct us ws ks h1 h2 h3 h4 h5)
  · exact absurd rfl e
def pmB (ps ks : List Str) (m : Nat) (pm : List Nat) : Bool := decide (ks.Nodup) && (decide (m + ks.length = ps.length) && ((ps.drop m).all (fun p => ks.contains p) && (ks.all (fun p => (ps.drop m).contains p) && decide (pm = List.range m ++ (ps.drop m).map fun p => m + ks.idxOf p))))
theorem lookup_idx : ∀ {ks : List Str} {ws : List Value} {p : Str}, ks.length = ws.length → (ks.zip ws).lookup p = ws[ks.idxOf p]?
  | [], ws, p, h => by
    have : ws = [] := List.length_eq_zero_iff.mp h.symm
    subst this
    rfl
  | k :: ks, [], p, h => by simp at h
  | k :: ks, w :: ws, p, h => by
    rw [List.zip_cons_cons, List.lookup_cons, List.idxOf_cons]
    by_cases z : p = k
    · subst z; simp
    · have z1 : (p == k) = false := by simpa using z
      have z2 : (k == p) = false := by simpa using fun e => z e.symm
      rw [z1, z2]
      simp only [cond_false, List.getElem?_cons_succ]
      exact lookup_idx (by simpa using h)
theorem pick_eq {ps ks : List Str} {us ws : List Value} {pm : List Nat} (h : pmB ps ks us.length pm = true) (hw : ks.length = ws.length) : us ++ (ps.drop us.length).map (fun p => ((ks.zip ws).lookup p).getD .none) = pick pm (us ++ ws) .none := by
  simp only [pmB, Bool.and_eq_true, decide_eq_true_eq] at h
  obtain ⟨_, _, _, _, rfl⟩ := h
  unfold pick
  rw [List.map_append]
  congr 1
  · refine List.ext_getElem (by simp) fun i h1 h2 => ?_
    have hi : i < us.length := h1
    simp [List.getD, List.getElem?_append_left hi, hi]
  · rw [List.map_map]
    refine List.map_congr_left fun p _ => ?_
    show _ = (us ++ ws).getD (us.length + ks.idxOf p) .none
    rw [lookup_idx hw, List.getD_eq_getElem?_getD, List.getElem?_append_right (Nat.le_add_right _ _), Nat.add_sub_cancel_left]
section
variable {X : Cx} {k : Nat} {f : Addr} {fd : FuncData} {ps ks : List Str} {sp : Sp} {pm : List Nat}
theorem Vals.getD {vs : List V} {us : List Value} (r : Vals vs us) (i : Nat) : RelV (vs.getD i .non) (us.getD i .none) := by
  rw [List.getD_eq_getElem?_getD, List.getD_eq_getElem?_getD]
  cases e : vs[i]? with
  | none =>
    rw [Vals.none_of r e]
    rfl
  | some v =>
    obtain ⟨u, hu, ru⟩ := r.get e
    rw [hu]
    exact ru
theorem Vals.pick {vs : List V} {us : List Value} (r : Vals vs us) : ∀ pm : List Nat, Vals (pick pm vs .non) (pick pm us .none)
  | [] => .nil
  | i :: pm => .cons (Vals.getD r i) (Vals.pick r pm)
theorem run_fnrK {pins : List (Addr × Obj)} {σ : L2.St} {H : Hp} {s : Shared} {Q : VK} {us ws : List Value} {vs zs : List V} (F : FnR X.prog X.w X.K X.mg X.base k f fd ps sp) (hr : Room k X.A) (gd : X.A.guards = some []) (hb : KwB fd ps) (hp : pmB ps ks vs.length pm = true) (hz : ks.length = zs.length)
    (I : Inv X pins σ H s) (r : Vals vs us) (rz : Vals zs ws) (h : sp (pick pm (vs ++ zs) .non) H Q E0) : wpAny (model X.prog X.w) X.A (call (.ref f) us (ks.zip ws)) (EP X pins σ Q) X.xe s := by
  have e1 : vs.length = us.length := r.length
  have e2 : ks.length = ws.length := hz.trans rz.length
  rw [e1] at hp
  have hp' := hp
  simp only [pmB, Bool.and_eq_true, decide_eq_true_eq, List.all_eq_true, List.contains_iff_mem] at hp'
  obtain ⟨p1, p2, p3, p4, _⟩ := hp'
  have hb' := hb s us ws ks p1 e2 p2 p3 p4
  rw [pick_eq hp e2] at hb'
  refine wpAny_call (codeAny_mono (F.run X.A X.stack s H ⟨us, ks.zip ws⟩ _ _ Q E0 hr gd I.env0 hb' (Vals.pick (r.append rz) pm) h) fun res s' hq => ?_)
  cases res with
  | error e => exact hq.elim
  | ok fl =>
    cases fl with
    | ret u => exact I.after hq
    | next => exact hq.elim
    | brk => exact hq.elim
    | cont => exact hq.elim
theorem kw_all : ∀ {kws : List Keyword} {ks : List Str} {env : Env} {pos : Pos}, kws.map (·.arg) = ks.map some → (backToKw pos (keywordEach kws env)).all (·.1.isSome) = true ∧ (backToKw pos (keywordEach kws env)).filterMap (·.1) = ks ∧ (backToKw pos (keywordEach kws env)).any (·.1.isNone) = false
  | [], ks, _, _, h => by
    cases ks with
    | nil => exact ⟨rfl, rfl, rfl⟩
    | cons _ _ => simp at h
  | ⟨nm, e, kp⟩ :: kws, [], _, _, h => by simp at h
  | ⟨nm, e, kp⟩ :: kws, n :: ks, env, pos, h => by
    have h1 : nm = some n ∧ kws.map (·.arg) = ks.map some := by simpa using h
    obtain ⟨rfl, h2⟩ := h1
    obtain ⟨i1, i2, i3⟩ := kw_all (env := env) (pos := pos) h2
    have e0 : backToKw pos (keywordEach (⟨some n, e, kp⟩ :: kws) env) = (some n, do let v ← eval e env; standAt pos; pure v) :: backToKw pos (keywordEach kws env) := rfl
    rw [e0]
    refine ⟨?_, ?_, ?_⟩
    · rw [List.all_cons, i1]; rfl
    · rw [List.filterMap_cons, i2]
    · rw [List.any_cons, i3]; rfl
theorem pe_callRK {x : Str} {p pos : Pos} {e : Expr} {es : List Expr} {kws : List Keyword} {t tk : TA} (F : FnR X.prog X.w X.K X.mg X.base k f fd ps sp) (hr : Room k X.A) (gd : X.A.guards = some []) (hg : Gl X x) (hm : X.mg x = some (.ref f)) (hk : PySem.W.keepIn X.K (.ref f) = true) (hb : KwB fd ps)
    (ha : PA X (e :: es) t) (hkw : PK X kws tk) (hdb : (x == ("__debug__" : Str)) = false) (he : okShape e = true ∧ es.all okShape = true) (hn : kws.map (·.arg) = ks.map some) :
    PE X (.Call (.Name x p) (e :: es) kws pos) (fun σ H Q => t σ H fun vs H1 => tk σ H1 fun zs H2 => pmB ps ks vs.length pm = true ∧ ks.length = zs.length ∧ sp (pick pm (vs ++ zs) .non) H2 Q E0) := by
  refine ⟨fun pins s σ H Q I h => ?_⟩
  obtain ⟨k1, k2, k3⟩ := kw_all (env := X.env) (pos := pos) hn
  have hns := noStar (es := e :: es) (env := X.env) (pos := pos) (by simp [he])
  refine wpAny_Call_Name_kw (ld_glob I hg hm ?_ hdb)
  refine PySem.W.callWith_KW (h₀ := X.base) I.ok.mod.kin hk k1 (thn (ha.run pos pins s σ H _ I h) fun us s1 ⟨vs, H1, I1, r, q⟩ => ?_) (by rw [hns, k3]; rfl) (shape_star he.1)
  refine thn (hkw.run pos pins s1 σ H1 _ I1 q) fun ws s2 ⟨zs, H2, I2, rz, q1, q2, q3⟩ => ⟨I2.kIn, ?_⟩
  rw [k2]
  exact run_fnrK F hr gd hb q1 q2 I2 r rz q3
theorem pe_callRK0 {x : Str} {p pos : Pos} {kws : List Keyword} {tk : TA} (F : FnR X.prog X.w X.K X.mg X.base k f fd ps sp) (hr : Room k X.A) (gd : X.A.guards = some []) (hg : Gl X x) (hm : X.mg x = some (.ref f)) (hk : PySem.W.keepIn X.K (.ref f) = true) (hb : KwB fd ps)
    (hkw : PK X kws tk) (hdb : (x == ("__debug__" : Str)) = false) (hn : kws.map (·.arg) = ks.map some) :
    PE X (.Call (.Name x p) [] kws pos) (fun σ H Q => tk σ H fun zs H2 => pmB ps ks 0 pm = true ∧ ks.length = zs.length ∧ sp (pick pm zs .non) H2 Q E0) := by
  refine ⟨fun pins s σ H Q I h => ?_⟩
  obtain ⟨k1, k2, k3⟩ := kw_all (env := X.env) (pos := pos) hn
  refine wpAny_Call_Name_kw (ld_glob I hg hm ?_ hdb)
  refine PySem.W.callWith_KW0 (h₀ := X.base) I.ok.mod.kin hk k1 (thn (hkw.run pos pins s σ H _ I h) fun ws s2 ⟨zs, H2, I2, rz, q1, q2, q3⟩ => ⟨I2.kIn, ?_⟩) (by rw [k3]; rfl)
  rw [k2]
  exact run_fnrK (vs := []) F hr gd hb q1 q2 I2 .nil rz q3
end
section
variable {K : PySem.W.Frag} {cl : Nat → Addr} {own : List Nat} {b : Bool} {X : Cx} {k : Nat} {f : Addr} {fd : FuncData} {ps ks : List Str} {sp : Sp} {pm : List Nat}
theorem rk_nil : PK X [] (tA K cl own b fun _ => pure []) :=
  ⟨fun pos pins s σ H Q I ⟨ω, δ, S, s', q⟩ => pk_nil.run pos pins s σ H Q I (q ω [] H (Go.refl _ _) s' .nil)⟩
theorem rk_cons {nm : Option Str} {e : Expr} {kp : Pos} {kws : List Keyword} {f : En → M D} {g : En → M (List D)} (he : PE X e (tE K cl own b f)) (hr : PK X kws (tA K cl own b g)) :
    PK X (⟨nm, e, kp⟩ :: kws) (tA K cl own b fun δ => do let x ← f δ; let l ← g δ; pure (x :: l)) := by
  refine ⟨fun pos pins s σ H Q I ⟨ω, δ, S, s', q⟩ => (pk_cons he hr).run pos pins s σ H Q I ?_⟩
  refine ⟨ω, δ, S, s', pG_bind q fun ω1 v H1 x S1 g1 s1 r1 q1 => ?_⟩
  refine ⟨ω1, δ, S1, s1, pG_bind q1 fun ω2 vs H2 l S2 g2 s2 r2 q2 => ?_⟩
  exact q2 ω2 _ H2 (Go.refl _ _) s2 (.cons (r1.go g2 s1.wok) r2)
theorem RepL.pick {ω : Wd} {H : Hp} {vs : List V} {ds : List D} (r : RepL K cl ω H vs ds) (pm : List Nat) : RepL K cl ω H (pick pm vs .non) (permD pm ds) := by
  unfold permD
  induction pm with
  | nil => exact RepL.nil
  | cons i pm ih =>
    refine RepL.cons ?_ ih
    show Rep K cl ω H (vs.getD i .non) (ds.getD i .non)
    rw [List.getD_eq_getElem?_getD, List.getD_eq_getElem?_getD]
    cases e : vs[i]? with
    | none =>
      have : ds[i]? = none := by
        rw [List.getElem?_eq_none_iff] at e ⊢
        rw [← r.1]
        exact e
      rw [this]
      exact .non
    | some v =>
      obtain ⟨d, hd, rd⟩ := r.atV e
      rw [hd]
      exact rd
theorem RepFL.app {ω : Wd} {H : Hp} {vs ws : List V} {ds es : List D} (r : RepFL K cl b ω H vs ds) (q : RepFL K cl b ω H ws es) : RepFL K cl b ω H (vs ++ ws) (ds ++ es) := by
  induction r with
  | nil => exact q
  | cons h r ih => exact .cons h ih
theorem RepFL.ln {ω : Wd} {H : Hp} {vs : List V} {ds : List D} (r : RepFL K cl b ω H vs ds) : vs.length = ds.length := by
  induction r with
  | nil => rfl
  | cons _ _ ih => simp [ih]
theorem RepFL.goS {ω ω1 : Wd} {H H1 : Hp} {vs : List V} {ds : List D} (r : RepFL K cl false ω H vs ds) (g : Go ω H ω1 H1) : RepFL K cl false ω1 H1 vs ds := by
  induction r with
  | nil => exact .nil
  | cons h r ih => exact .cons (Rep.go h g.st) ih
theorem pick_len {α : Type} (pm : List Nat) (l : List α) (d : α) : (pick pm l d).length = pm.length := by unfold pick; simp
theorem pm_len {m : Nat} (h : pmB ps ks m pm = true) : pm.length = ps.length := by
  simp only [pmB, Bool.and_eq_true, decide_eq_true_eq] at h
  obtain ⟨_, h2, _, _, rfl⟩ := h
  simp
  omega
theorem re_callK {x : Str} {p pos : Pos} {e : Expr} {es : List Expr} {kws : List Keyword} {gs hs : En → M (List D)} {ar : Nat} {g : List D → M D} (F : FnR X.prog X.w X.K X.mg X.base k f fd ps (spOf X.K cl ar g)) (hr : Room k X.A) (gd : X.A.guards = some []) (hg : Gl X x) (hm : X.mg x = some (.ref f)) (hk : PySem.W.keepIn X.K (.ref f) = true)
    (hb : KwB fd ps) (hdb : (x == ("__debug__" : Str)) = false) (ha : PA X (e :: es) (tA X.K cl own false gs)) (hkw : PK X kws (tA X.K cl own false hs)) (hsh : okShape e = true ∧ es.all okShape = true) (hn : kws.map (·.arg) = ks.map some) (har : ps.length = ar)
    {m : Nat} (hpm : pmB ps ks m pm = true) (h1 : ∀ δ S ds S', gs δ S = .ok ds S' → ds.length = m) (h2 : ∀ δ S ds S', hs δ S = .ok ds S' → ks.length = ds.length) :
    PE X (.Call (.Name x p) (e :: es) kws pos) (tE X.K cl own b fun δ => do let a ← gs δ; let c ← hs δ; g (permD pm (a ++ c))) := by
  refine (pe_callRK (pm := pm) F hr gd hg hm hk hb ha hkw hdb hsh hn).imp fun σ H Q ⟨ω, δ, S, s, q⟩ => ?_
  dsimp only at q
  rw [M.bind_run] at q
  cases e1 : gs δ S with
  | exc _ _ => rw [e1] at q; exact q.elim
  | no => rw [e1] at q; exact q.elim
  | ok ds S1 =>
    rw [e1] at q
    refine ⟨ω, δ, S, s, ?_⟩
    rw [e1]
    intro ω1 vs H1 g1 s1 r1
    dsimp only at q
    rw [M.bind_run] at q
    cases e2 : hs δ S1 with
    | exc _ _ => rw [e2] at q; exact q.elim
    | no => rw [e2] at q; exact q.elim
    | ok es' S2 =>
      rw [e2] at q
      refine ⟨ω1, δ, S1, s1, ?_⟩
      rw [e2]
      intro ω2 zs H2 g2 s2 r2
      have l1 : vs.length = m := by rw [r1.ln]; exact h1 δ S ds S1 e1
      refine ⟨by rw [l1]; exact hpm, by rw [r2.ln]; exact h2 δ S1 es' S2 e2, ?_⟩
      refine sp_of s2 (by rw [pick_len, pm_len hpm, har]) (RepL.pick ((r1.goS g2).app r2).l pm) (pG.go (pG.go q g1) g2)
theorem re_callK0 {x : Str} {p pos : Pos} {kws : List Keyword} {hs : En → M (List D)} {ar : Nat} {g : List D → M D} (F : FnR X.prog X.w X.K X.mg X.base k f fd ps (spOf X.K cl ar g)) (hr : Room k X.A) (gd : X.A.guards = some []) (hg : Gl X x) (hm : X.mg x = some (.ref f)) (hk : PySem.W.keepIn X.K (.ref f) = true)
    (hb : KwB fd ps) (hdb : (x == ("__debug__" : Str)) = false) (hkw : PK X kws (tA X.K cl own false hs)) (hn : kws.map (·.arg) = ks.map some) (har : ps.length = ar)
    (hpm : pmB ps ks 0 pm = true) (h2 : ∀ δ S ds S', hs δ S = .ok ds S' → ks.length = ds.length) :
    PE X (.Call (.Name x p) [] kws pos) (tE X.K cl own b fun δ => do let c ← hs δ; g (permD pm c)) := by
  refine (pe_callRK0 (pm := pm) F hr gd hg hm hk hb hkw hdb hn).imp fun σ H Q ⟨ω, δ, S, s, q⟩ => ?_
  dsimp only at q
  rw [M.bind_run] at q
  cases e2 : hs δ S with
  | exc _ _ => rw [e2] at q; exact q.elim
  | no => rw [e2] at q; exact q.elim
  | ok es' S2 =>
    rw [e2] at q
    refine ⟨ω, δ, S, s, ?_⟩
    rw [e2]
    intro ω2 zs H2 g2 s2 r2
    refine ⟨hpm, by rw [r2.ln]; exact h2 δ S es' S2 e2, ?_⟩
    exact sp_of s2 (by rw [pick_len, pm_len hpm, har]) (RepL.pick r2.l pm) (pG.go q g2)
end
end RF
end
section
set_option linter.all false
set_option maxRecDepth 100000
set_option maxHeartbeats 4000000
set_option autoImplicit false
/-! RfSnd17: instances: attributes, properties, methods, new ones. -/
namespace RF
open PySem PySem.Spec L2
open PyProof.Rows hiding St
/-! ### defs called on instances, where no repr is under way -/
theorem in1_guards {A : Around} (h : A.guards = some []) : A.in1.guards = some [] := by
  first
    | exact h
    | simpa [Around.in1] using h
theorem make_guards {A : Around} {C : Addr} {us : List Value} {kw : List (Str × Value)} (h : A.guards = some []) : (A.under (.builtin "type.__call__" ⟨.ref C :: us, kw⟩)).guards = some [] := by
  first
    | exact h
    | simpa [Around.under] using h
section
variable {X : Cx} {k : Nat} {f C : Addr} {fd : FuncData} {ps : List Str} {sp : Sp} {x m : Str} {p pos apos : Pos} {e o : Expr} {es : List Expr} {ta : TE} {t : TA}
theorem run_makeR {pins : List (Addr × Obj)} {σ : L2.St} {H : Hp} {s : Shared} {Q : VK} {us : List Value} {vs : List V} (M : Mk X.K C f) (F : FnR X.prog X.w X.K X.mg X.base k f fd ps sp) (hr : Room (k + 1) X.A) (gd : X.A.guards = some []) (hb : Binds X.K fd ps [])
    (I : Inv X pins σ H s) (r : Vals vs us)
    (h : ∀ x dx, H x = none → H dx = none → dx ≠ x → sp (.ref x :: vs) (upd (upd H dx (.own x)) x (.ins C dx [])) (fun v H2 => v = .non ∧ Q (.ref x) H2) E0) :
    wpAny (model X.prog X.w) X.A (call (.ref C) us) (EP X pins σ Q) X.xe s := by
  have hq := h (s.heap.objs.size + 1) s.heap.objs.size (I.hok.fresh (Nat.le_succ _)) (I.hok.fresh (Nat.le_refl _)) (Nat.ne_of_lt (Nat.lt_succ_self _))
  have I2 := Inv.made (C := C) I
  have r2 : Vals (V.ref (s.heap.objs.size + 1) :: vs) (Value.ref (s.heap.objs.size + 1) :: us) := .cons rfl r
  have hl : (Value.ref (s.heap.objs.size + 1) :: us ++ []).length = ps.length := by
    have e := r2.length
    rw [F.len _ _ _ _ hq] at e
    rw [List.append_nil]
    exact e.symm
  have hb2 := hb _ (Value.ref (s.heap.objs.size + 1) :: us) I2.kIn hl
  rw [List.append_nil] at hb2
  refine wpAny_call (make_map (f := f) I.kIn M.makes M.init (beq_iff_eq.mp M.fn) (codeAny_mono (F.run _ X.stack _ _ ⟨Value.ref (s.heap.objs.size + 1) :: us, []⟩ (Value.ref (s.heap.objs.size + 1) :: us) _ _ E0 (hr.make C us []) (make_guards gd)
    (I2.env0.make C us []) hb2 r2 hq) fun r s' hq' => ?_))
  cases r with
  | error e => exact hq'.elim
  | ok fl =>
    cases fl with
    | ret u =>
      obtain ⟨v, H', I3, rv, ev, q3⟩ := I2.after hq'
      subst ev
      exact ⟨rv, ⟨V.ref (s.heap.objs.size + 1), H', I3, rfl, q3⟩⟩
    | next => exact False.elim hq'
    | brk => exact False.elim hq'
    | cont => exact False.elim hq'
abbrev tMakeR (C : Addr) (sp : Sp) (t : TA) : TE := fun σ H Q => t σ H fun vs H1 => ∀ x dx, H1 x = none → H1 dx = none → dx ≠ x → sp (.ref x :: vs) (upd (upd H1 dx (.own x)) x (.ins C dx [])) (fun v H2 => v = .non ∧ Q (.ref x) H2) E0
theorem pe_makeR (M : Mk X.K C f) (F : FnR X.prog X.w X.K X.mg X.base k f fd ps sp) (hr : Room (k + 1) X.A) (gd : X.A.guards = some []) (hg : Gl X x) (hm : X.mg x = some (.ref C)) (hb : Binds X.K fd ps [])
    (ha : PA X (e :: es) t) (hdb : (x == ("__debug__" : Str)) = false) (he : starEach (e :: es) X.env = (false, eval e X.env) :: starEach es X.env) (hpl : (backTo pos (starEach es X.env)).any (·.1) = false) :
    PE X (.Call (.Name x p) (e :: es) [] pos) (tMakeR C sp t) := by
  refine ⟨fun pins s σ H Q I h => ?_⟩
  refine wpAny_Call_Name_kw (ld_glob I hg hm ?_ hdb)
  refine PySem.W.callWith_K (h₀ := X.base) I.ok.mod.kin M.kp (thn (ha.run pos pins s σ H _ I h) fun us s1 ⟨vs, H1, I1, r, q⟩ => ⟨I1.kIn, ?_⟩) he hpl
  exact run_makeR M F hr gd hb I1 r q
theorem pe_makeR0 (M : Mk X.K C f) (F : FnR X.prog X.w X.K X.mg X.base k f fd ps sp) (hr : Room (k + 1) X.A) (gd : X.A.guards = some []) (hg : Gl X x) (hm : X.mg x = some (.ref C)) (hb : Binds X.K fd ps [])
    (hdb : (x == ("__debug__" : Str)) = false) : PE X (.Call (.Name x p) [] [] pos) (tMakeR C sp tNil) := by
  refine ⟨fun pins s σ H Q I h => ?_⟩
  refine wpAny_Call_Name_kw (ld_glob I hg hm ?_ hdb)
  exact PySem.W.callWith_K0 I.kIn M.kp (run_makeR (us := []) M F hr gd hb I .nil h)
/-- the base of an attribute is not super() -/
def okB : Expr → Bool
  | .Call (.Name _ _) [] [] _ => false
  | _ => true
theorem base_of {e : Expr} {f : Str} {env : Env} {w : Sem Value} (h : okB e = true) : attributeBase e f env w = w := by
  unfold attributeBase
  split
  · cases h
  · rfl
theorem meth_at {o : Expr} {env : Env} {A : Around} {prog : Program} {w : World} {s : Shared} {E : Value → Shared → Prop} {Q : Value → Shared → Prop} (hb : okB o = true) (hf : methodCallForm (es.length + ([] : List Keyword).length) (backTo pos (starEach es env)) (backToKw pos (keywordEach [] env)) = true) (hl : (apos.endLine == pos.line) = true)
    (h : wpAny (model prog w) A (eval o env) (fun ov s₁ => ∀ pl, wpAny (model prog w) A (getMethod ov m pl) (fun fx s₂ => wpAny (model prog w) A (callWith pos fx.1 fx.2 (backTo pos (starEach es env)) (backToKw pos (keywordEach [] env))) Q E s₂) E s₁) E s) :
    wpAny (model prog w) A (eval (.Call (.Attribute o m apos) es [] pos) env) Q E s := by
  rw [arm_eval_Call, base_of hb]
  refine wpAny_bind (wpAny_mono h (fun ov s₁ h₁ => ?_) fun _ _ e => e)
  refine wpAny_bind (wpAny_standAt ?_)
  have hpos : methodCallPos true o env apos pos = pure pos := by unfold methodCallPos; simp [hl]
  unfold methodCall
  rw [hf]
  refine wpAny_bind (wpAny_holding (wpAny_mono (h₁ _) (fun fx s₂ h₂ => ?_) fun _ _ x => x))
  exact wpAny_bind (wpAny_of_eq hpos h₂)
abbrev tMethR (C : Addr) (m : Str) (sp : Sp) (ta : TE) (t : TA) : TE := fun σ H Q => ta σ H fun x H1 => ∃ a dx fs, x = .ref a ∧ H1 a = some (.ins C dx fs) ∧ fs.lookup m = none ∧ t σ H1 fun vs H2 => sp (x :: vs) H2 Q E0
theorem pe_methR (he : PE X o ta) (c : Cls X.K C) (hm : Meth X.K C m f) (F : FnR X.prog X.w X.K X.mg X.base k f fd ps sp) (hr : Room k X.A) (gd : X.A.guards = some []) (hb : Binds X.K fd ps []) (ha : PA X (e :: es) t)
    (hst : starEach (e :: es) X.env = (false, eval e X.env) :: starEach es X.env) (hpl : (backTo pos (starEach es X.env)).any (·.1) = false) (hbo : okB o = true) (hf : methodCallForm ((e :: es).length + ([] : List Keyword).length) (backTo pos (starEach (e :: es) X.env)) (backToKw pos (keywordEach [] X.env)) = true) (hl : (apos.endLine == pos.line) = true) :
    PE X (.Call (.Attribute o m apos) (e :: es) [] pos) (tMethR C m sp ta t) := by
  refine ⟨fun pins s σ H Q I h => ?_⟩
  refine meth_at hbo hf hl (thn (he.run pins s σ H _ I h) fun u s1 ⟨x, H1, I1, rx, a, dx, fs, ex, ea, l, q⟩ pl => ?_)
  subst ex
  obtain rfl : u = Value.ref a := rx
  refine getmeth_ok I1 ea c hm l ?_
  refine PySem.W.callWith_K (first := [.ref a]) (h₀ := X.base) I.ok.mod.kin hm.kp (thn (ha.run pos pins s1 σ H1 _ I1 q) fun us s2 ⟨vs, H2, I2, r, q2⟩ => ⟨I2.kIn, ?_⟩) hst hpl
  exact run_fnr (us := .ref a :: us) (vs := .ref a :: vs) F hr gd hb I2 (.cons rfl r) q2
theorem pe_methR0 (he : PE X o ta) (c : Cls X.K C) (hm : Meth X.K C m f) (F : FnR X.prog X.w X.K X.mg X.base k f fd ps sp) (hr : Room k X.A) (gd : X.A.guards = some []) (hb : Binds X.K fd ps [])
    (hbo : okB o = true) (hl : (apos.endLine == pos.line) = true) :
    PE X (.Call (.Attribute o m apos) [] [] pos) (tMethR C m sp ta tNil) := by
  refine ⟨fun pins s σ H Q I h => ?_⟩
  refine meth_at hbo rfl hl (thn (he.run pins s σ H _ I h) fun u s1 ⟨x, H1, I1, rx, a, dx, fs, ex, ea, l, q⟩ pl => ?_)
  subst ex
  obtain rfl : u = Value.ref a := rx
  refine getmeth_ok I1 ea c hm l ?_
  exact PySem.W.callWith_K0 (first := [.ref a]) I1.kIn hm.kp (run_fnr (us := [.ref a]) (vs := [.ref a]) F hr gd hb I1 (.cons rfl .nil) q)
abbrev tPropR (C : Addr) (sp : Sp) (ta : TE) : TE := fun σ H Q => ta σ H fun x H1 => ∃ a dx fs, x = .ref a ∧ H1 a = some (.ins C dx fs) ∧ sp [.ref a] H1 Q E0
theorem pe_propR {g : Addr} {n : Str} {q : Addr} (he : PE X e ta) (c : Cls X.K C) (hp : PropOf X.K C n q g) (F : FnR X.prog X.w X.K X.mg X.base k g fd ps sp) (hr : Room (k + 1) X.A) (gd : X.A.guards = some []) (hb : Binds X.K fd ps []) (hbo : okB e = true) :
    PE X (.Attribute e n pos) (tPropR C sp ta) := by
  refine ⟨fun pins s σ H Q I h => ?_⟩
  refine attr_of (base_of hbo) (thn (he.run pins s σ H _ I h) fun u s1 ⟨x, H1, I1, rx, a, dx, fs, ex, ea, h⟩ => ?_)
  subst ex
  obtain rfl : u = Value.ref a := rx
  obtain ⟨mA, O, _, _, _, _⟩ := ins_get I1.hok ea
  obtain ⟨od, J, _⟩ := O.look
  obtain ⟨rest, hrec⟩ := hp.rec_
  have I2 := I1.tok (s1.toks + 1)
  have hl : ([Value.ref a] ++ ([] : List Value)).length = ps.length := by
    rw [← F.len _ _ _ _ h]
    rfl
  have hc : (PySem.W.clsIn X.K C).isSome = true := by
    obtain ⟨cd, hc, _⟩ := PySem.W.any_some c.hd
    rw [hc]
    rfl
  have hb2 := hb _ [.ref a] I2.kIn hl
  rw [List.append_nil] at hb2
  refine PySem.W.get_bind I1.kIn J (PySem.W.plainGet_of (c.get n)).1 (PySem.W.findObj_data hc hp.at_ hp.get hp.tak) (PySem.W.plainGet_of (c.get n)).2 (wpAny_call (PySem.W.prop_get (s := { s1 with toks := s1.toks + 1 }) I1.kIn hrec ?_))
  refine codeAny_mono (F.run X.A.in1 X.stack { s1 with toks := s1.toks + 1 } H1 ⟨[.ref a], []⟩ [.ref a] [.ref a] Q E0 hr.in1 (in1_guards gd) I2.env0.in1 hb2 (.cons rfl .nil) h) fun r s' hq => ?_
  cases r with
  | error er => exact hq.elim
  | ok fl =>
    cases fl with
    | ret u =>
      obtain ⟨v, H', I3, rv, q3⟩ := I2.after hq
      show wpAny _ _ (handedOut u) _ _ _
      rw [PySem.W.handedOut_of (handed_of rv)]
      exact wpAny_pure ⟨v, H', I3, rv, q3⟩
    | next => exact False.elim hq
    | brk => exact False.elim hq
    | cont => exact False.elim hq
end
/-! ### our data -/
section
variable {K : PySem.W.Frag} {cl : Nat → Addr} {ω ω' : Wd} {H : Hp} {v : V} {d : D}
theorem lts_of {n : Nat} : ∀ {l : List D}, (∀ (i : Nat) (d : D), l[i]? = some d → D.lt n d = true) → D.lts n l = true
  | [], _ => rfl
  | d :: r, h => by
    simp only [D.lts, Bool.and_eq_true]
    exact ⟨h 0 d rfl, lts_of fun i e q => h (i + 1) e (by simpa using q)⟩
theorem of_lts {n : Nat} : ∀ {l : List D}, D.lts n l = true → ∀ (i : Nat) (d : D), l[i]? = some d → D.lt n d = true
  | [], _, i, d, h => by simp at h
  | d :: r, h, i, e, q => by
    simp only [D.lts, Bool.and_eq_true] at h
    cases i with
    | zero => simp at q; rw [← q]; exact h.1
    | succ i => exact of_lts h.2 i e (by simpa using q)
theorem ltD_of {n : Nat} : ∀ {l : List (Ky × D)}, (∀ (i : Nat) (k : Ky) (d : D), l[i]? = some (k, d) → D.lt n d = true) → D.ltD n l = true
  | [], _ => rfl
  | (k, d) :: r, h => by
    simp only [D.ltD, Bool.and_eq_true]
    exact ⟨h 0 k d rfl, ltD_of fun i k e q => h (i + 1) k e (by simpa using q)⟩
theorem of_ltD {n : Nat} : ∀ {l : List (Ky × D)}, D.ltD n l = true → ∀ (i : Nat) (k : Ky) (d : D), l[i]? = some (k, d) → D.lt n d = true
  | [], _, i, k, d, h => by simp at h
  | (k, d) :: r, h, i, k', e, q => by
    simp only [D.ltD, Bool.and_eq_true] at h
    cases i with
    | zero => simp at q; rw [← q.2]; exact h.1
    | succ i => exact of_ltD h.2 i k' e (by simpa using q)
theorem ltF_of {n : Nat} : ∀ {l : List (Str × D)}, (∀ (i : Nat) (k : Str) (d : D), l[i]? = some (k, d) → D.lt n d = true) → D.ltF n l = true
  | [], _ => rfl
  | (k, d) :: r, h => by
    simp only [D.ltF, Bool.and_eq_true]
    exact ⟨h 0 k d rfl, ltF_of fun i k e q => h (i + 1) k e (by simpa using q)⟩
theorem of_ltF {n : Nat} : ∀ {l : List (Str × D)}, D.ltF n l = true → ∀ (i : Nat) (k : Str) (d : D), l[i]? = some (k, d) → D.lt n d = true
  | [], _, i, k, d, h => by simp at h
  | (k, d) :: r, h, i, k', e, q => by
    simp only [D.ltF, Bool.and_eq_true] at h
    cases i with
    | zero => simp at q; rw [← q.2]; exact h.1
    | succ i => exact of_ltF h.2 i k' e (by simpa using q)
theorem at_of {α β : Type} {as : List α} {bs : List β} (h : as.length = bs.length) {i : Nat} {b : β} (q : bs[i]? = some b) : ∃ a, as[i]? = some a := by
  have hi : i < bs.length := (List.getElem?_eq_some_iff.mp q).1
  exact ⟨as[i]'(by omega), List.getElem?_eq_getElem (by omega)⟩
/-- what stands for something names things of the store that are there -/
theorem Rep.lt (r : Rep K cl ω H v d) : D.lt ω.rho.length d = true := by
  induction r with
  | non => rfl
  | bl b => rfl
  | int i => rfl
  | str x => rfl
  | tup h l e ih => exact lts_of fun i d q => by obtain ⟨a, qa⟩ := at_of l q; exact ih i a d qa q
  | lst h n l e ih => exact lts_of fun i d q => by obtain ⟨a, qa⟩ := at_of l q; exact ih i a d qa q
  | dct h n l ek e ih => exact ltD_of fun i k d q => by obtain ⟨⟨a, b⟩, qa⟩ := at_of l q; exact ih i a b k d qa q
  | ins h n l ek e ih => exact ltF_of fun i k d q => by obtain ⟨⟨a, b⟩, qa⟩ := at_of l q; exact ih i a b k d qa q
  | obj h => exact decide_eq_true (List.getElem?_eq_some_iff.mp h).1
  | frz h l e ih => exact lts_of fun i d q => by obtain ⟨a, qa⟩ := at_of l q; exact ih i a d qa q
theorem Own.lt {a : Addr} (r : Own K cl ω H a d) : D.lt ω.rho.length d = true := by
  cases d with
  | lst ds => obtain ⟨vs, q, r⟩ := r; exact lts_of fun i d q => by obtain ⟨a, qa⟩ := at_of r.1 q; exact (r.2 i a d qa q).lt
  | dct ds => obtain ⟨vs, q, r⟩ := r; exact ltD_of fun i k d q => by obtain ⟨⟨a, b⟩, qa⟩ := at_of r.1 q; exact (r.2 i a b k d qa q).2.lt
  | ins c gs => obtain ⟨dx, fs, q, r⟩ := r; exact ltF_of fun i k d q => by obtain ⟨⟨a, b⟩, qa⟩ := at_of r.1 q; exact (r.2 i a b k d qa q).2.lt
  | _ => exact r.elim
/-- a smaller store is enough -/
theorem Rep.cut {n : Nat} (r : Rep K cl ω H v d) (hl : D.lt n d = true) (e1 : ∀ (m : Nat) (a : Addr), m < n → ω.rho[m]? = some a → ω'.rho[m]? = some a) (e2 : ∀ a, ω'.bar a → ω.bar a) : Rep K cl ω' H v d := by
  induction r with
  | non => exact .non
  | bl b => exact .bl b
  | int i => exact .int i
  | str x => exact .str x
  | tup h l e ih => exact .tup h l fun i v d q1 q2 => ih i v d q1 q2 (of_lts hl i d q2)
  | lst h m l e ih => exact .lst h (fun z => m (e2 _ z)) l fun i v d q1 q2 => ih i v d q1 q2 (of_lts hl i d q2)
  | dct h m l ek e ih => exact .dct h (fun z => m (e2 _ z)) l ek fun i k v q d q1 q2 => ih i k v q d q1 q2 (of_ltD hl i q d q2)
  | ins h m l ek e ih => exact .ins h (fun z => m (e2 _ z)) l ek fun i k v q d q1 q2 => ih i k v q d q1 q2 (of_ltF hl i q d q2)
  | obj h => exact .obj (e1 _ _ (of_decide_eq_true hl) h)
  | frz h l e ih => exact .frz (h.imp (fun ⟨o, q, m⟩ => ⟨o, q, fun z => m (e2 _ z)⟩) id) l fun i v d q1 q2 => ih i v d q1 q2 (of_lts hl i d q2)
theorem Own.cut {n : Nat} {a : Addr} (r : Own K cl ω H a d) (hl : D.lt n d = true) (e1 : ∀ (m : Nat) (a : Addr), m < n → ω.rho[m]? = some a → ω'.rho[m]? = some a) (e2 : ∀ a, ω'.bar a → ω.bar a) : Own K cl ω' H a d := by
  cases d with
  | lst ds => obtain ⟨vs, q, r⟩ := r; exact ⟨vs, q, r.1, fun i v d q1 q2 => (r.2 i v d q1 q2).cut (of_lts hl i d q2) e1 e2⟩
  | dct ds => obtain ⟨vs, q, r⟩ := r; exact ⟨vs, q, r.1, fun i k v q d q1 q2 => ⟨(r.2 i k v q d q1 q2).1, (r.2 i k v q d q1 q2).2.cut (of_ltD hl i q d q2) e1 e2⟩⟩
  | ins c gs => obtain ⟨dx, fs, q, r⟩ := r; exact ⟨dx, fs, q, r.1, fun i k v q d q1 q2 => ⟨(r.2 i k v q d q1 q2).1, (r.2 i k v q d q1 q2).2.cut (of_ltF hl i q d q2) e1 e2⟩⟩
  | _ => exact r.elim
/-- an instance, of the store or not -/
theorem RepB.insH {S : Sto} {c : Nat} {gs : List (Str × D)} (r : RepB K cl ω H v d) (so : StoOk K cl ω H S) (h : insOf S d = some (c, gs)) : ∃ a dx fs, v = .ref a ∧ H a = some (.ins (cl c) dx fs) ∧ RepK K cl ω H fs gs := by
  cases d with
  | ins c' gs' =>
    cases h
    rcases r with r | ⟨a, i, e, h, dx, fs, q, r⟩
    · cases r with
      | ins h n l ek e => exact ⟨_, _, _, rfl, h, l, fun i k v q d h1 h2 => ⟨ek i k v q d h1 h2, e i k v q d h1 h2⟩⟩
    · exact ⟨a, dx, fs, e, q, r⟩
  | obj n =>
    have h' : (match S[n]? with
      | some (.ins c l) => some (c, l)
      | _ => none) = some (c, gs) := h
    cases e : S[n]? with
    | none => rw [e] at h'; cases h'
    | some o =>
      rw [e] at h'
      cases o with
      | ins c' gs' =>
        cases h'
        rcases r with r | ⟨_, _, _, _, z⟩
        · cases r with
          | @obj p _ hp =>
            obtain ⟨dx, fs, q, r⟩ := so.obj n p _ hp e
            exact ⟨p, dx, fs, rfl, q, r⟩
        · exact z.elim
      | _ => cases h'
  | _ => cases h
theorem RepK.lookup {κ : Type} [BEq κ] [LawfulBEq κ] {f : κ} : ∀ {fs : List (κ × V)} {gs : List (κ × D)}, RepK K cl ω H fs gs → (∀ d, gs.lookup f = some d → ∃ v, fs.lookup f = some v ∧ Rep K cl ω H v d) ∧ (gs.lookup f = none → fs.lookup f = none)
  | [], [], _ => ⟨(fun d h => by cases h), fun _ => rfl⟩
  | [], _ :: _, r => by have := r.1; simp at this
  | _ :: _, [], r => by have := r.1; simp at this
  | (k, v) :: fs, (q, d) :: gs, r => by
    have r0 := r.2 0 k v q d rfl rfl
    have rt : RepK K cl ω H fs gs := ⟨by have := r.1; simpa using this, fun i k v q d h1 h2 => r.2 (i + 1) k v q d (by simpa using h1) (by simpa using h2)⟩
    obtain ⟨ih1, ih2⟩ := rt.lookup (f := f)
    obtain ⟨rfl, r1⟩ := r0
    rw [List.lookup_cons, List.lookup_cons]
    cases f == k with
    | true => exact ⟨fun d' h => by cases h; exact ⟨v, rfl, r1⟩, fun h => by cases h⟩
    | false => exact ⟨ih1, ih2⟩
theorem RepK.putA {f : Str} : ∀ {fs : List (Str × V)} {gs : List (Str × D)}, RepK K cl ω H fs gs → Rep K cl ω H v d → RepK K cl ω H (putF f v fs) (putA f d gs)
  | [], [], _, h => by
    refine ⟨rfl, fun i k w q e h1 h2 => ?_⟩
    cases i with
    | zero => cases h1; cases h2; exact ⟨rfl, h⟩
    | succ i => cases h1
  | [], _ :: _, r, _ => by have := r.1; simp at this
  | _ :: _, [], r, _ => by have := r.1; simp at this
  | (k, w) :: fs, (q, e) :: gs, r, h => by
    have r0 := r.2 0 k w q e rfl rfl
    have rt : RepK K cl ω H fs gs := ⟨by have := r.1; simpa using this, fun i k v q d h1 h2 => r.2 (i + 1) k v q d (by simpa using h1) (by simpa using h2)⟩
    obtain ⟨rfl, r1⟩ := r0
    have cons : ∀ {fs : List (Str × V)} {gs : List (Str × D)} {k : Str} {v : V} {d : D}, RepK K cl ω H fs gs → Rep K cl ω H v d → RepK K cl ω H ((k, v) :: fs) ((k, d) :: gs) := fun {fs gs k v d} r h =>
      ⟨by simp [r.1], fun i k' v' q' d' h1 h2 => by
        cases i with
        | zero => cases h1; cases h2; exact ⟨rfl, h⟩
        | succ i => exact r.2 i k' v' q' d' (by simpa using h1) (by simpa using h2)⟩
    unfold putF RF.putA
    by_cases z : k = f
    · rw [if_pos z, if_pos z]
      exact cons rt h
    · rw [if_neg z, if_neg z]
      exact cons (rt.putA h) r1
end
/-! ### the rules -/
section
variable {X : Cx} {cl : Nat → Addr} {own : List Nat} {k : Nat} {f : Addr} {fd : FuncData} {ps : List Str} {x m : Str} {p pos apos : Pos} {e o : Expr} {es : List Expr} {b : Bool} {g : List D → M D} {h : En → M D} {gs : En → M (List D)} {c ar : Nat}
theorem re_fld {n : Str} (he : PE X e (tE X.K cl own true h)) (hc : Cls X.K (cl c)) (hn : NoAttr X.K (cl c) n) (hbo : okB e = true) : PE X (.Attribute e n pos) (tE X.K cl own b fun δ => do fldF c n (← h δ)) := by
  refine (pe_fld (f := n) he (base_of hbo)).imp fun σ H Q ⟨ω, δ, S, s, q⟩ => ⟨ω, δ, S, s, pG_bind q fun ω1 v H1 x S1 g1 s1 r1 q1 => ?_⟩
  unfold fldF at q1
  cases e : insOf S1 x with
  | none => simp only [e] at q1; exact q1.elim
  | some r =>
    obtain ⟨c', gs⟩ := r
    simp only [e] at q1
    by_cases hcc : c' = c
    case neg => rw [if_neg hcc] at q1; exact q1.elim
    subst hcc
    rw [if_pos rfl] at q1
    obtain ⟨a, dx, fs, rfl, ha, rk⟩ := RepB.insH r1 s1.sto e
    cases el : gs.lookup n with
    | none => simp only [el] at q1; exact q1.elim
    | some d =>
      simp only [el] at q1
      obtain ⟨w, hw, rw'⟩ := (rk.lookup (f := n)).1 d el
      exact ⟨a, cl c', dx, fs, w, rfl, ha, hc, hn, hw, pG.ret q1 s1 rw'⟩
/-- a property -/
theorem re_prop {n : Str} {q gt : Addr} (he : PE X e (tE X.K cl own false h)) (hc : Cls X.K (cl c)) (hp : PropOf X.K (cl c) n q gt) (F : FnR X.prog X.w X.K X.mg X.base k gt fd ps (spOf X.K cl 1 g)) (hr : Room (k + 1) X.A) (gd : X.A.guards = some []) (hb : Binds X.K fd ps []) (hbo : okB e = true) :
    PE X (.Attribute e n pos) (tE X.K cl own b fun δ => do propF g c (← h δ)) := by
  refine (pe_propR (n := n) he hc hp F hr gd hb hbo).imp fun σ H Q ⟨ω, δ, S, s, q⟩ => ⟨ω, δ, S, s, pG_bind q fun ω1 v H1 x S1 g1 s1 r1 q1 => ?_⟩
  unfold propF at q1
  cases e : insOf S1 x with
  | none => simp only [e] at q1; exact q1.elim
  | some r =>
    obtain ⟨c', gs⟩ := r
    simp only [e] at q1
    by_cases hcc : c' = c
    case neg => rw [if_neg hcc] at q1; exact q1.elim
    subst hcc
    rw [if_pos rfl] at q1
    obtain ⟨a, dx, fs, rfl, ha, rk⟩ := RepB.insH (.inl r1) s1.sto e
    exact ⟨a, dx, fs, rfl, ha, sp_of s1 rfl (RepL.nil.cons r1) q1⟩
/-- a method: the instance first -/
abbrev mthG (c : Nat) (m : Str) (g : List D → M D) (h : En → M D) (gs : En → M (List D)) : En → M D := fun δ => do
  let x ← h δ
  let _ ← mthC c m x
  let ds ← gs δ
  g (x :: ds)
theorem mth_of {h : En → M D} {t : TA} (ht : ∀ σ H Q, tA X.K cl own false gs σ H Q → t σ H Q) (hgl : ∀ δ S ds S', gs δ S = .ok ds S' → ds.length + 1 = ar) {σ : L2.St} {H : Hp} {Q : VK} (q : tE X.K cl own b (mthG c m g h gs) σ H Q) :
    tMethR (cl c) m (spOf X.K cl ar g) (tE X.K cl own false h) t σ H Q := by
  obtain ⟨ω, δ, S, s, q⟩ := q
  refine ⟨ω, δ, S, s, pG_bind (k := fun x => mthC c m x >>= fun _ => gs δ >>= fun ds => g (x :: ds)) q fun ω1 v H1 x S1 g1 s1 r1 q1 => ?_⟩
  rw [M.bind_run] at q1
  unfold mthC at q1
  cases e : insOf S1 x with
  | none => simp only [e] at q1; exact q1.elim
  | some r =>
    obtain ⟨c', l⟩ := r
    simp only [e] at q1
    by_cases hcc : c' = c ∧ l.lookup m = none
    case neg => rw [if_neg hcc] at q1; exact q1.elim
    rw [if_pos hcc] at q1
    obtain ⟨rfl, hln⟩ := hcc
    obtain ⟨a, dx, fs, rfl, ha, rk⟩ := RepB.insH (.inl r1) s1.sto e
    refine ⟨a, dx, fs, rfl, ha, (rk.lookup (f := m)).2 hln, ht _ _ _ ⟨ω1, δ, S1, s1, ?_⟩⟩
    dsimp only at q1
    rw [M.bind_run] at q1
    cases e2 : gs δ S1 with
    | exc _ _ => rw [e2] at q1; exact q1.elim
    | no => rw [e2] at q1; exact q1.elim
    | ok ds S2 =>
      rw [e2] at q1
      intro ω2 vs H2 g2 s2 r2
      have hl := hgl δ S1 ds S2 e2
      refine sp_of s2 ?_ (RepL.cons (RepF.go r1 g2 s1.wok) r2.l) (pG.go q1 g2)
      rw [List.length_cons, r2.len]
      exact hl
theorem re_mth {h : En → M D} (he : PE X o (tE X.K cl own false h)) (hc : Cls X.K (cl c)) (hm : Meth X.K (cl c) m f) (F : FnR X.prog X.w X.K X.mg X.base k f fd ps (spOf X.K cl ar g)) (hr : Room k X.A) (gd : X.A.guards = some []) (hb : Binds X.K fd ps []) (ha : PA X (e :: es) (tA X.K cl own false gs))
    (hs : okShape e = true ∧ es.all okShape = true) (hf : methodCallForm ((e :: es).length + ([] : List Keyword).length) (backTo pos (starEach (e :: es) X.env)) (backToKw pos (keywordEach [] X.env)) = true) (hgl : ∀ δ S ds S', gs δ S = .ok ds S' → ds.length + 1 = ar) (hbo : okB o = true) (hl : (apos.endLine == pos.line) = true) :
    PE X (.Call (.Attribute o m apos) (e :: es) [] pos) (tE X.K cl own b (mthG c m g h gs)) :=
  (pe_methR he hc hm F hr gd hb ha (shape_star hs.1) (noStar hs.2) hbo hf hl).imp fun σ H Q q => mth_of (fun _ _ _ z => z) hgl q
theorem re_mth0 {h : En → M D} (he : PE X o (tE X.K cl own false h)) (hc : Cls X.K (cl c)) (hm : Meth X.K (cl c) m f) (F : FnR X.prog X.w X.K X.mg X.base k f fd ps (spOf X.K cl 1 g)) (hr : Room k X.A) (gd : X.A.guards = some []) (hb : Binds X.K fd ps []) (hbo : okB o = true) (hl : (apos.endLine == pos.line) = true) :
    PE X (.Call (.Attribute o m apos) [] [] pos) (tE X.K cl own b (mthG c m g h fun _ => pure [])) :=
  (pe_methR0 he hc hm F hr gd hb hbo hl).imp fun σ H Q q => mth_of (gs := fun _ => pure []) (fun σ H Q ⟨ω, δ, S, s, z⟩ => z ω [] H (Go.refl _ _) s .nil) (fun δ S ds S' z => by cases z; rfl) q
/-- no star, few: a method's call -/
theorem form_of : ∀ {es : List Expr} {env : Env} {cpos : Pos}, es.all okShape = true → es.length < 30 → methodCallForm (es.length + ([] : List Keyword).length) (backTo cpos (starEach es env)) (backToKw cpos (keywordEach [] env)) = true := by
  intro es env cpos h hl
  have e1 : ∀ es : List Expr, es.all okShape = true → (starEach es env).all (fun x => !x.1) = true := by
    intro es
    induction es with
    | nil => intro _; rfl
    | cons e es ih =>
      intro h
      rw [List.all_cons, Bool.and_eq_true] at h
      rw [shape_star h.1, List.all_cons, ih h.2]
      rfl
  have e2 : ∀ l : List (Bool × Sem Value), (backTo cpos l).all (fun x => !x.1) = l.all (fun x => !x.1) := by
    intro l
    unfold backTo
    induction l with
    | nil => rfl
    | cons p l ih => simp_all
  have e3 : (backToKw cpos (keywordEach [] env)) = [] := rfl
  unfold methodCallForm
  rw [e2, e1 es h, e3]
  simpa using hl
/-- a new instance -/
theorem new_at {ω : Wd} {H : Hp} {σ : L2.St} {δ : En} {S : Sto} {Q : VK} {vs : List V} {ds : List D} (s : SR X.K cl own ω σ H δ S) (hl : vs.length + 1 = ar) (r : RepL X.K cl ω H vs ds) (q : pG X.K cl own (RepF X.K cl b) ω H σ δ Q (newF g c ds S)) {y dx : Addr} (hy : H y = none) (hdx : H dx = none) (hne : dx ≠ y) :
    spOf X.K cl ar g (.ref y :: vs) (upd (upd H dx (.own y)) y (.ins (cl c) dx [])) (fun v H2 => v = .non ∧ Q (.ref y) H2) E0 := by
  have g1 : Go ω H ω (upd H dx (.own y)) := Go.upd hdx s.wok
  have s1 : SR X.K cl own ω σ (upd H dx (.own y)) δ S := s.upd hdx
  have hy1 : (upd H dx (.own y)) y = none := by rw [upd_ne (Ne.symm hne)]; exact hy
  have g2 : Go ω H ω (upd (upd H dx (.own y)) y (.ins (cl c) dx [])) := g1.trans (Go.upd hy1 s1.wok)
  have s2 : SR X.K cl own ω σ (upd (upd H dx (.own y)) y (.ins (cl c) dx [])) δ S := s1.upd hy1
  have r2 : RepL X.K cl ω (upd (upd H dx (.own y)) y (.ins (cl c) dx [])) vs ds := r.go g2.st
  have hyn : ¬ ω.bar y := s1.wok.fresh hy1
  generalize hH2 : upd (upd H dx (.own y)) y (.ins (cl c) dx []) = H2 at g2 s2 r2
  have hy2 : H2 y = some (.ins (cl c) dx []) := by rw [← hH2]; exact upd_same
  -- the callee's world: what the caller may change is out of reach, the new one is in the store
  let ωc : Wd := { rho := ω.rho ++ [y], ow := fun _ => none, av := fun a => ω.av a ∨ ∃ i, ω.ow i = some a }
  have pre : ∀ (n : Nat) (a : Addr), ω.rho[n]? = some a → (ω.rho ++ [y])[n]? = some a := fun n a h => by
    have hn : n < ω.rho.length := (List.getElem?_eq_some_iff.mp h).1
    rw [List.getElem?_append_left hn]
    exact h
  have hyr : y ∉ ω.rho := fun z => hyn (.inl z)
  have nd : (ω.rho ++ [y]).Nodup := List.nodup_append.mpr ⟨s2.wok.nd, by simp, fun a ha b hb e => by
    have : b = y := by simpa using hb
    subst this; subst e
    exact hyr ha⟩
  have mem : ∀ a, a ∈ ω.rho ++ [y] ↔ a ∈ ω.rho ∨ a = y := fun a => by simp
  have wokc : WOk ωc H2 := by
    refine ⟨nd, fun a z => ?_, (fun i a z => nomatch z), (fun i j a z => nomatch z), fun a z => ?_⟩
    · rcases (mem a).mp z with z | z
      · exact s2.wok.rho a z
      · rw [z, hy2]; simp
    · rcases z with z | ⟨i, z⟩
      · refine ⟨(s2.wok.av a z).1, fun x => ?_⟩
        rcases (mem a).mp x with x | x
        · exact (s2.wok.av a z).2 x
        · exact hyn (.inr (.inr (x ▸ z)))
      · refine ⟨(s2.wok.ow i a z).1, fun x => ?_⟩
        rcases (mem a).mp x with x | x
        · exact (s2.wok.ow i a z).2.1 x
        · exact hyn (.inr (.inl ⟨i, x ▸ z⟩))
  have barc : ∀ a, ωc.bar a → ω.bar a ∨ a = y := fun a z => by
    rcases z with z | ⟨i, z⟩ | z | z
    · exact ((mem a).mp z).imp .inl id
    · cases z
    · exact .inl (.inr (.inr z))
    · exact .inl (.inr (.inl z))
  -- nothing that stands for something stands at the new place
  have upc : ∀ {v : V} {d : D}, Rep X.K cl ω H v d → Rep X.K cl ωc H2 v d := fun {v d} r => by
    have r' := r
    induction r with
    | non => exact .non
    | bl b => exact .bl b
    | int i => exact .int i
    | str x => exact .str x
    | tup h l e ih => exact .tup (g2.st.ptu h) l fun i v d q1 q2 => ih i v d q1 q2 (e i v d q1 q2)
    | @lst a _ _ h m l e ih => exact .lst (g2.st.at h m) (fun z => (barc _ z).elim m fun e => by rw [e, hy] at h; cases h) l fun i v d q1 q2 => ih i v d q1 q2 (e i v d q1 q2)
    | dct h m l ek e ih => exact .dct (g2.st.at h m) (fun z => (barc _ z).elim m fun e => by rw [e, hy] at h; cases h) l ek fun i k v q d q1 q2 => ih i k v q d q1 q2 (e i k v q d q1 q2)
    | ins h m l ek e ih => exact .ins (g2.st.at h m) (fun z => (barc _ z).elim m fun e => by rw [e, hy] at h; cases h) l ek fun i k v q d q1 q2 => ih i k v q d q1 q2 (e i k v q d q1 q2)
    | obj h => exact .obj (pre _ _ h)
    | frz h l e ih => exact .frz (h.imp (fun ⟨o, q, m⟩ => ⟨o, g2.st.at q m, fun z => (barc _ z).elim m fun e => by rw [e, hy] at q; cases q⟩) id) l fun i v d q1 q2 => ih i v d q1 q2 (e i v d q1 q2)
  have rc : RepL X.K cl ωc H2 vs ds := ⟨r.1, fun i v d q1 q2 => upc (r.2 i v d q1 q2)⟩
  have keepR : ∀ a ∈ ω.rho, H2 a = H a := fun a z => by
    have h0 := s.wok.rho a z
    rw [← hH2, upd_ne (fun e => h0 (by rw [e]; exact hy)), upd_ne (fun e => h0 (by rw [e]; exact hdx))]
  have stoc : StoOk X.K cl ωc H2 (S ++ [.ins c []]) := by
    refine ⟨by show (ω.rho ++ [y]).length = _; rw [List.length_append, List.length_append, s.sto.len]; rfl, fun n a d h1 h2 => ?_⟩
    have h1' : (ω.rho ++ [y])[n]? = some a := h1
    by_cases hn : n < ω.rho.length
    · rw [List.getElem?_append_left hn] at h1'
      rw [List.getElem?_append_left (by rw [← s.sto.len]; exact hn)] at h2
      have o := s.sto.obj n a d h1' h2
      have hk := keepR a (List.mem_of_getElem? h1')
      cases d with
      | lst ds => obtain ⟨vs, q, r⟩ := o; exact ⟨vs, hk.trans q, r.1, fun i v d q1 q2 => upc (r.2 i v d q1 q2)⟩
      | dct ds => obtain ⟨vs, q, r⟩ := o; exact ⟨vs, hk.trans q, r.1, fun i k v q d q1 q2 => ⟨(r.2 i k v q d q1 q2).1, upc (r.2 i k v q d q1 q2).2⟩⟩
      | ins c gs => obtain ⟨dx, fs, q, r⟩ := o; exact ⟨dx, fs, hk.trans q, r.1, fun i k v q d q1 q2 => ⟨(r.2 i k v q d q1 q2).1, upc (r.2 i k v q d q1 q2).2⟩⟩
      | _ => exact o.elim
    · have hn0 : n - ω.rho.length = 0 := by
        have := (List.getElem?_eq_some_iff.mp h1').1
        simp at this
        omega
      rw [List.getElem?_append_right (by omega), hn0] at h1'
      rw [List.getElem?_append_right (by rw [← s.sto.len]; omega), ← s.sto.len, hn0] at h2
      cases h1'
      cases h2
      exact ⟨dx, [], hy2, RepK.nil⟩
  refine ⟨ωc, .obj S.length :: ds, S ++ [.ins c []], rfl, wokc, stoc, by simp [hl], RepL.cons (.obj (by show (ω.rho ++ [y])[S.length]? = some y; rw [← s.sto.len, List.getElem?_append_right (Nat.le_refl _)]; simp)) rc, ?_⟩
  unfold newF at q
  cases e : g (.obj S.length :: ds) (S ++ [.ins c []]) with
  | exc _ _ => rw [e] at q; exact q.elim
  | no => rw [e] at q; exact q.elim
  | ok d S' =>
  rw [e] at q
  cases d <;> first | exact q.elim | skip
  dsimp only at q
  cases eS : S'[S.length]? with
  | none => simp only [eS] at q; exact q.elim
  | some o =>
  rw [eS] at q
  cases o <;> first | exact q.elim | skip
  rename_i c' l
  dsimp only at q
  split at q
  case isFalse => exact q.elim
  rename_i hc
  obtain ⟨rfl, hlen, htake, hlt⟩ := hc
  intro ω' v H' go wok' sto' rv
  have hv : v = .non := by cases rv; rfl
  refine ⟨hv, ?_⟩
  have eo : ω'.ow = fun _ => none := go.eq
  have ea : ω'.av = fun a => ω.av a ∨ ∃ i, ω.ow i = some a := go.ea
  -- the store's places behind the call
  have hrl : ω'.rho.length = ω.rho.length + 1 := by rw [sto'.len, hlen, s.sto.len]
  have hr' : ∀ (n : Nat) (a : Addr), ω.rho[n]? = some a → ω'.rho[n]? = some a := fun n a h => go.st.pre n a (pre n a h)
  have hry : ω'.rho[ω.rho.length]? = some y := go.st.pre _ _ (by show (ω.rho ++ [y])[ω.rho.length]? = some y; simp)
  have memr : ∀ a, a ∈ ω.rho → a ∈ ω'.rho := fun a z => by
    obtain ⟨i, hi⟩ := List.mem_iff_getElem?.mp z
    exact List.mem_of_getElem? (hr' i a hi)
  have memr' : ∀ a, a ∈ ω'.rho → a ∈ ω.rho ∨ a = y := fun a z => by
    obtain ⟨i, hi⟩ := List.mem_iff_getElem?.mp z
    have hil := (List.getElem?_eq_some_iff.mp hi).1
    by_cases hn : i < ω.rho.length
    · left
      have : ω.rho[i]? = some (ω.rho[i]'hn) := List.getElem?_eq_getElem hn
      have h2 := hr' i _ this
      rw [hi] at h2
      cases h2
      exact List.getElem_mem hn
    · right
      have : i = ω.rho.length := by omega
      rw [this, hry] at hi
      cases hi
      rfl
  let ω2 : Wd := { rho := ω.rho, ow := ω.ow, av := ω.av }
  have b2 : ∀ a, ω2.bar a → ω'.bar a := fun a z => by
    rcases z with z | z | z
    · exact .inl (memr a z)
    · exact .inr (.inr (by rw [ea]; exact .inr z))
    · exact .inr (.inr (by rw [ea]; exact .inl z))
  have ny : ¬ ω2.bar y := hyn
  -- from the caller's heap
  have domH : ∀ a, H a ≠ none → H2 a ≠ none := fun a h => g2.st.dom a h
  have hdxy : ∀ a, H a ≠ none → a ≠ y := fun a h e => h (by rw [e]; exact hy)
  have go2 : Go ω H ω2 H' := by
    refine ⟨⟨fun _ _ h => h, fun a o h n m => ?_, fun a xs h => go.st.tup a xs (g2.st.tup a xs h), fun _ _ h => h, fun i a z => .inl z, fun a z => .inl z, fun a h => go.st.dom a (domH a h)⟩, rfl, rfl⟩
    refine go.st.keep a o (g2.st.keep a o h n m) (fun z => ?_) (fun _ z => nomatch z)
    rcases (mem a).mp z with z | z
    · exact n z
    · exact hdxy a (by rw [h]; simp) z
  have keepO : ∀ i a, ω.ow i = some a → H' a = H a := fun i a z => by
    cases ho : H a with
    | none => exact absurd ho (s.wok.ow i a z).1
    | some o =>
      refine go.st.keep a o (g2.st.keep a o ho (s.wok.ow i a z).2.1 fun _ z => nomatch z) (fun x => ?_) (fun _ z => nomatch z)
      rcases (mem a).mp x with x | x
      · exact (s.wok.ow i a z).2.1 x
      · exact hdxy a (by rw [ho]; simp) x
  have wok2 : WOk ω2 H' := by
    refine ⟨s.wok.nd, fun a z => wok'.rho a (memr a z), fun i a z => ⟨?_, (s.wok.ow i a z).2.1, (s.wok.ow i a z).2.2⟩, s.wok.inj, fun a z => ⟨?_, (s.wok.av a z).2⟩⟩
    · exact go.st.dom a (domH a (s.wok.ow i a z).1)
    · exact go.st.dom a (domH a (s.wok.av a z).1)
  have cut : ∀ (m : Nat) (a : Addr), m < ω.rho.length → ω'.rho[m]? = some a → ω2.rho[m]? = some a := fun m a hm z => by
    have h2 := hr' m _ (List.getElem?_eq_getElem hm)
    rw [z] at h2
    cases h2
    exact List.getElem?_eq_getElem hm
  have sto2 : StoOk X.K cl ω2 H' S := by
    refine ⟨s.sto.len, fun n a d h1 h2 => ?_⟩
    have hn : n < S.length := (List.getElem?_eq_some_iff.mp h2).1
    have h3 : S'[n]? = some d := by
      rw [← htake, List.getElem?_take] at h2
      rw [if_pos hn] at h2
      exact h2
    exact (sto'.obj n a d (hr' n a h1) h3).cut (s.sto.obj n a d h1 h2).lt cut b2
  have oy := sto'.obj S.length y _ (by rw [← s.sto.len]; exact hry) eS
  have ry : Rep X.K cl ω2 H' (.ref y) (.ins c' l) := by
    obtain ⟨dx', fs, q1, q2⟩ := oy
    exact .ins q1 ny q2.1 (fun i k v q d h1 h2 => (q2.2 i k v q d h1 h2).1) fun i k v q d h1 h2 => (q2.2 i k v q d h1 h2).2.cut (of_ltF hlt i q d h2) (by rw [← s.sto.len]; exact cut) b2
  refine q ω2 (.ref y) H' go2 ⟨s.len, wok2, fun i d h1 h2 => ?_, fun i d h1 h2 => ?_, sto2⟩ (RepF.of ry)
  · obtain ⟨v, z, x⟩ := s.slot i d h1 h2
    exact ⟨v, z, x.go go2.st⟩
  · rcases s.osl i d h1 h2 with ⟨a, z, x, o⟩ | ⟨hm, v, z, x⟩
    · exact .inl ⟨a, z, x, o.go go2.st (keepO i a x)⟩
    · exact .inr ⟨hm, v, z, x.go go2.st⟩
theorem re_newV {x : Str} (MK : Mk X.K (cl c) f) (F : FnR X.prog X.w X.K X.mg X.base k f fd ps (spOf X.K cl ar g)) (hr : Room (k + 1) X.A) (gd : X.A.guards = some []) (hg : Gl X x) (hm : X.mg x = some (.ref (cl c))) (hb : Binds X.K fd ps []) (hdb : (x == ("__debug__" : Str)) = false)
    (ha : PA X (e :: es) (tA X.K cl own false gs)) (hs : okShape e = true ∧ es.all okShape = true) (hgl : ∀ δ S ds S', gs δ S = .ok ds S' → ds.length + 1 = ar) :
    PE X (.Call (.Name x p) (e :: es) [] pos) (tE X.K cl own b fun δ => do newF g c (← gs δ)) := by
  refine (pe_makeR MK F hr gd hg hm hb ha hdb (shape_star hs.1) (noStar hs.2)).imp fun σ H Q ⟨ω, δ, S, s, q⟩ => ⟨ω, δ, S, s, ?_⟩
  dsimp only at q
  rw [M.bind_run] at q
  cases e : gs δ S with
  | exc _ _ => rw [e] at q; exact q.elim
  | no => rw [e] at q; exact q.elim
  | ok ds S1 =>
    rw [e] at q
    intro ω1 vs H1 g1 s1 r1 y dx hy hdx hne
    exact new_at s1 (by rw [r1.len]; exact hgl δ S ds S1 e) r1.l (pG.go q g1) hy hdx hne
theorem re_newV0 {x : Str} (MK : Mk X.K (cl c) f) (F : FnR X.prog X.w X.K X.mg X.base k f fd ps (spOf X.K cl 1 g)) (hr : Room (k + 1) X.A) (gd : X.A.guards = some []) (hg : Gl X x) (hm : X.mg x = some (.ref (cl c))) (hb : Binds X.K fd ps []) (hdb : (x == ("__debug__" : Str)) = false) :
    PE X (.Call (.Name x p) [] [] pos) (tE X.K cl own b fun δ => do newF g c (← (pure [] : M (List D)))) :=
  (pe_makeR0 MK F hr gd hg hm hb hdb).imp fun σ H Q ⟨ω, δ, S, s, q⟩ => fun y dx hy hdx hne => new_at s rfl RepL.nil q hy hdx hne
end
end RF
end
section
set_option linter.all false
set_option maxRecDepth 100000
set_option maxHeartbeats 4000000
set_option autoImplicit false
/-! RfSnd18: attributes set, methods of built-in types, f-strings. -/
namespace RF
open PySem PySem.Spec L2
open PyProof.Rows hiding St
section
variable {X : Cx} {cl : Nat → Addr} {own : List Nat} {nw : Bool} {Mu : List Nat} {i : Nat} {f : Str} {x m : Str} {p pos apos tpos : Pos} {e o : Expr} {es : List Expr} {b : Bool} {h g : En → M D} {gs : En → M (List D)} {c : Nat}
theorem ins_nt {H : Hp} {a C dx : Addr} {fs : List (Str × V)} (h : H a = some (.ins C dx fs)) : ∀ xs, ¬ Rd H a (.tup xs) := fun xs z => by
  rcases z with z | ⟨u, z⟩ <;> (rw [h] at z; cases z)
theorem rs_setF {py : Pos} (hN : X.N[i]? = some x) (hv : Vis X.env.scope x) (hd : (x == ("__debug__" : Str)) = false) (hcd : (x == ("__classdict__" : Str)) = false) (hc : Cls X.K (cl c)) (hn : NoAttr X.K (cl c) f)
    (he : PE X e (tE X.K cl own false h)) (hse : okSw e = true) :
    PS X (.Assign [.Attribute (.Name x py) f tpos] e pos) (tS X.K cl own nw Mu fun δ => do
      let v ← h δ
      let o ← getV δ i
      setFF c f o v δ) := by
  refine (ps_fld (pe_var hN hv hd hcd) he (sw_none hse)).imp fun D σ H ⟨ω, δ, S, s, q⟩ => ⟨ω, δ, S, s, sG_bind q fun ω1 v H1 d S1 g1 s1 r1 q1 => ?_⟩
  rw [M.bind_run] at q1
  unfold getV at q1
  cases eo : δ[i]? with
  | none => rw [eo] at q1; exact q1.elim
  | some oo =>
  cases oo with
  | none => rw [eo] at q1; exact q1.elim
  | some o =>
  rw [eo] at q1
  simp only [M.pure_run] at q1
  cases o with
  | obj n =>
    have hr : ∃ w, σ[i]? = some (some w) ∧ Rep X.K cl ω1 H1 w (.obj n) := by
      by_cases hio : i ∈ own
      · rcases s1.osl i _ eo hio with ⟨A, hσ, hw, ho⟩ | ⟨hm, w, hσ, hr⟩
        · exact ho.elim
        · exact ⟨w, hσ, hr⟩
      · exact s1.slot i _ eo hio
    obtain ⟨w, hσ, hr⟩ := hr
    unfold setFF at q1
    dsimp only at q1
    cases hr with
    | @obj a _ hb =>
      cases en : S1[n]? with
      | none => simp only [en] at q1; exact q1.elim
      | some d' =>
      simp only [en] at q1
      cases d' with
      | ins c' l =>
        dsimp only at q1
        split at q1
        case isFalse => exact q1.elim
        rename_i hcc
        obtain ⟨rfl, hl⟩ := hcc
        obtain ⟨dx, fs, hh, rk⟩ := s1.sto.obj n a _ hb en
        have hbar : ∀ c ob', H1 c = some ob' → ¬ ω1.bar c → upd H1 a (.ins (cl c') dx (putF f v fs)) c = some ob' := upd_bar (.inl (List.mem_of_getElem? hb))
        have rk2 := rk.putA (f := f) r1
        obtain ⟨s3, g3⟩ := s1.chgSto (o := .ins (cl c') dx (putF f v fs)) (d := .ins c' (putA f d l)) hb ⟨dx, putF f v fs, upd_same, rk2.1, fun i k v q d h1 h2 => ⟨(rk2.2 i k v q d h1 h2).1, (rk2.2 i k v q d h1 h2).2.chg hbar fun _ _ => upd_ptu (ins_nt hh)⟩⟩ (ins_nt hh) Mu
        exact ⟨_, hσ, a, cl c', dx, fs, rfl, hh, hc, hn, by rw [rk.1]; omega, q1 ω1 σ _ g3 rfl s3⟩
      | _ => exact q1.elim
  | _ => exact q1.elim
/-! ### methods of built-in types -/
theorem idx_rep {K : PySem.W.Frag} {ω : Wd} {H : Hp} {w : V} {y : D} (q : Rep K cl ω H w y) (k : D.flat y = true) : ∀ {vs : List V} {ds : List D} {j : Nat}, RepL K cl ω H vs ds → ds.all D.flat = true → idxOf y ds = some j →
    ∃ z, vs[j]? = some z ∧ L2.eqV z w = true ∧ ∀ (m : Nat) (z' : V), m < j → vs[m]? = some z' → L2.eqV z' w = false := by
  intro vs
  induction vs with
  | nil =>
    intro ds j r _ h
    cases ds with
    | nil => cases h
    | cons _ _ => have := r.1; simp at this
  | cons v vs ih =>
    intro ds j r hf h
    cases ds with
    | nil => have := r.1; simp at this
    | cons d ds =>
      have hf' : D.flat d = true ∧ ds.all D.flat = true := by simpa using hf
      have e := r.head.eqV q hf'.1 k
      unfold idxOf at h
      by_cases z : D.eqv d y = true
      · rw [if_pos z] at h
        cases h
        exact ⟨v, rfl, by rw [e]; exact z, fun m z' hm => absurd hm (Nat.not_lt_zero _)⟩
      · rw [if_neg z] at h
        cases hj : idxOf y ds with
        | none => rw [hj] at h; cases h
        | some j' =>
          rw [hj] at h
          cases h
          obtain ⟨u, h1, h2, h3⟩ := ih r.tail hf'.2 hj
          refine ⟨u, h1, h2, fun m z' hm hz => ?_⟩
          cases m with
          | zero =>
            cases hz
            rw [e]
            simpa using z
          | succ m => exact h3 m z' (Nat.lt_of_succ_lt_succ hm) hz
theorem re_index (ho : PE X o (tE X.K cl own true h)) (ha : PA X [e] (tA X.K cl own true gs)) (hs : okShape e = true) (hbo : okB o = true) (hl : (apos.endLine == p.line) = true) :
    PE X (.Call (.Attribute o "index" apos) [e] [] p) (tE X.K cl own b fun δ => do
      let x ← h δ
      let ds ← gs δ
      mtD .index x ds) := by
  refine (pe_bm PySem.F.plainAttrs_list PySem.F.slot_list_index PySem.F.type_list_index mt_index ho ha (base_of hbo) (few_one hs) hl (shape_star hs) (noStar rfl)).imp fun σ H Q ⟨ω, δ, S, s, q⟩ => ⟨ω, δ, S, s, ?_⟩
  dsimp only at q
  rw [M.bind_run] at q
  cases eh : h δ S with
  | exc _ _ => rw [eh] at q; exact q.elim
  | no => rw [eh] at q; exact q.elim
  | ok x S1 =>
  rw [eh] at q
  intro ω1 v H1 g1 s1 r1
  have q := pG.go q g1
  dsimp only at q
  rw [M.bind_run] at q
  cases eg : gs δ S1 with
  | exc _ _ => rw [eg] at q; exact q.elim
  | no => rw [eg] at q; exact q.elim
  | ok ds S2 =>
  rw [eg] at q
  match x, ds, q, r1 with
  | .lst l, [y], q, r1 =>
    obtain ⟨A, vs, rfl, hh, rl⟩ := RepB.lstH r1
    refine ⟨.inl ⟨rfl, vs, SqL.of hh⟩, ω1, δ, S1, s1, ?_⟩
    rw [eg]
    intro ω2 ws H2 g2 s2 r2
    have q := pG.go q g2
    dsimp only at q
    obtain ⟨w, rfl, rw'⟩ := one_of r2
    have r1' := RepF.go r1 g2 s1.wok
    obtain ⟨A', vs', e', hh', rl'⟩ := RepB.lstH r1'
    cases e'
    unfold mtD at q
    dsimp only at q
    split at q
    case isFalse => exact q.elim
    rename_i hf
    simp only [Bool.and_eq_true] at hf
    cases ei : idxOf y l with
    | none => rw [ei] at q; exact q.elim
    | some j =>
    rw [ei] at q
    have ry : Rep X.K cl ω2 H2 w y := by
      rcases rw' with z | ⟨a, i, e1, e2, z⟩
      · exact z
      · cases y <;> first | exact z.elim | exact absurd hf.1 Bool.false_ne_true
    obtain ⟨z, h1, h2, h3⟩ := idx_rep ry hf.1 rl' hf.2 ei
    exact ⟨A, vs', w, j, z, rfl, rfl, SqL.of hh', ry.flat hf.1, rl'.flat hf.2, h1, h2, h3, pG.ret q s2 (.int _)⟩
  | .lst l, [], q, _ => exact q.elim
  | .lst l, _ :: _ :: _, q, _ => exact q.elim
  | .tup l, _, q, _ => exact q.elim
  | .non, _, q, _ | .bl _, _, q, _ | .int _, _, q, _ | .str _, _, q, _ | .dct _, _, q, _ | .ins _ _, _, q, _ | .obj _, _, q, _ | .frz _, _, q, _ => exact q.elim
theorem ptu_is {pins : List (Addr × Obj)} {σ : L2.St} {H : Hp} {s : Shared} {a : Addr} {xs : List V} {X : Cx} (I : Inv X pins σ H s) (h : PTu X.K H a xs) : s.TypeIs (.ref a) "tuple" ∧ ∀ b, Value.ref a = .ref b → ∃ ob, s.heap.get? b = some ob ∧ ob.dict = none := by
  rcases h with ⟨o, h, hd⟩ | ⟨o, us, n, h1, h2, hd, _⟩
  · obtain ⟨e, _, its, _, o', e', c, _⟩ := I.hok a _ h
    rw [e] at e'
    cases e'
    refine ⟨⟨o, e, c⟩, fun b z => ?_⟩
    cases z
    exact ⟨o, e, hd⟩
  · refine ⟨⟨o, I.kIn _ _ h1, h2⟩, fun b z => ?_⟩
    cases z
    exact ⟨o, I.kIn _ _ h1, hd⟩
def tBMT (K : PySem.W.Frag) (r : V → List V → Hp → VK → Prop) (to : TE) (t : TA) : TE := fun σ H Q => to σ H fun x H1 => (∃ a xs, x = .ref a ∧ PTu K H1 a xs) ∧ t σ H1 fun xs H2 => r x xs H2 Q
theorem pe_bmT {X : Cx} {o e : Expr} {es : List Expr} {to : TE} {t : TA} {name : Str} {apos cpos : Pos} {id : String} {r : V → List V → Hp → VK → Prop} (pa : PlainAttrs "tuple") (slot : Slot "tuple" name id) (hty : typeOf (.builtin id) = pure (.type "method_descriptor")) (hm : MtR X id r) (ho : PE X o to) (ha : PA X (e :: es) t)
    (hbase : attributeBase o name X.env (eval o X.env) = eval o X.env)
    (hfew : ((backTo cpos (starEach (e :: es) X.env)).all (fun x => !x.1) && (backToKw cpos (keywordEach [] X.env)).all (fun x => x.1.isSome)
      && decide ((e :: es).length + ([] : List Keyword).length + (if ([] : List Keyword).isEmpty then 0 else 1) < 30)) = true)
    (hline : (apos.endLine == cpos.line) = true) (hs : starEach (e :: es) X.env = (false, eval e X.env) :: starEach es X.env) (hplain : (backTo cpos (starEach es X.env)).any (·.1) = false) :
    PE X (.Call (.Attribute o name apos) (e :: es) [] cpos) (tBMT X.K r to t) := by
  refine ⟨fun pins s σ H Q I h => ?_⟩
  refine wpAny_Call_method_late hbase hfew hline rfl (thn (ho.run pins s σ H _ I h) fun v s1 ⟨x, H1, I1, r1, ⟨a, xs, ex, ty⟩, q1⟩ => ?_)
  subst ex
  cases r1
  obtain ⟨h1, h2⟩ := ptu_is I1 ty
  refine ⟨"tuple", id, pa, slot, hty, h1, h2, ?_⟩
  have hA := ha.run cpos pins s1 σ H1 _ I1 q1
  rw [hs] at hA ⊢
  refine Calls.callWith_builtin (by show (false || (backTo cpos (starEach es X.env)).any (·.1)) = false; rw [hplain] <;> rfl) (Calls.evalArgs_plain ?_)
  exact thn hA fun us s2 ⟨vs, H2, I2, r2, q2⟩ => hm pins s2 σ H2 (.ref a) vs (.ref a) us Q I2 rfl r2 q2
theorem re_tindex (ho : PE X o (tE X.K cl own true h)) (ha : PA X [e] (tA X.K cl own true gs)) (hs : okShape e = true) (hbo : okB o = true) (hl : (apos.endLine == p.line) = true) :
    PE X (.Call (.Attribute o "index" apos) [e] [] p) (tE X.K cl own b fun δ => do
      let x ← h δ
      let ds ← gs δ
      mtD .tindex x ds) := by
  refine (pe_bmT PySem.F.plainAttrs_tuple PySem.F.slot_tuple_index PySem.F.type_tuple_index mt_tup_index ho ha (base_of hbo) (few_one hs) hl (shape_star hs) (noStar rfl)).imp fun σ H Q ⟨ω, δ, S, s, q⟩ => ⟨ω, δ, S, s, ?_⟩
  dsimp only at q
  rw [M.bind_run] at q
  cases eh : h δ S with
  | exc _ _ => rw [eh] at q; exact q.elim
  | no => rw [eh] at q; exact q.elim
  | ok x S1 =>
  rw [eh] at q
  intro ω1 v H1 g1 s1 r1
  have q := pG.go q g1
  dsimp only at q
  rw [M.bind_run] at q
  cases eg : gs δ S1 with
  | exc _ _ => rw [eg] at q; exact q.elim
  | no => rw [eg] at q; exact q.elim
  | ok ds S2 =>
  rw [eg] at q
  match x, ds, q, r1 with
  | .tup l, [.str y], q, r1 =>
    obtain ⟨A, vs, rfl, hh, rl⟩ := RepB.tup r1 |>.ptu
    refine ⟨⟨A, vs, rfl, hh⟩, ω1, δ, S1, s1, ?_⟩
    rw [eg]
    intro ω2 ws H2 g2 s2 r2
    have q := pG.go q g2
    dsimp only at q
    obtain ⟨w, rfl, rw'⟩ := one_of r2
    have r1' := RepF.go r1 g2 s1.wok
    obtain ⟨A', vs', e', hh', rl'⟩ := RepB.tup r1' |>.seqT
    cases e'
    unfold mtD at q
    dsimp only at q
    cases ey : strsOf l with
    | none => rw [ey] at q; exact q.elim
    | some ys =>
    rw [ey] at q
    dsimp only at q
    obtain rfl := rep_strs rl' ey
    cases ei : ys.findIdx? (fun z => decide (z = y)) with
    | none => rw [ei] at q; exact q.elim
    | some j =>
    rw [ei] at q
    have ex : w = .str y := rw'.str
    subst ex
    obtain ⟨hj, h1, h2⟩ := List.findIdx?_eq_some_iff_getElem.mp ei
    refine ⟨A, ys, y, j, rfl, rfl, hh', ?_, ?_, pG.ret q s2 (.int _)⟩
    · rw [List.getElem?_eq_getElem hj]
      exact congrArg some (by simpa using h1)
    · intro m hm z
      have hm' : m < ys.length := Nat.lt_trans hm hj
      rw [List.getElem?_eq_getElem hm'] at z
      have := h2 m hm
      simp at this
      exact this (Option.some.inj z)
  | .tup l, [], q, _ => exact q.elim
  | .tup l, a :: _ :: _, q, _ => cases a <;> exact q.elim
  | .tup l, [.non], q, _ | .tup l, [.bl _], q, _ | .tup l, [.int _], q, _ | .tup l, [.tup _], q, _ | .tup l, [.lst _], q, _ | .tup l, [.dct _], q, _ | .tup l, [.ins _ _], q, _ | .tup l, [.obj _], q, _ | .tup l, [.frz _], q, _ => exact q.elim
  | .lst l, _, q, _ => exact q.elim
  | .non, _, q, _ | .bl _, _, q, _ | .int _, _, q, _ | .str _, _, q, _ | .dct _, _, q, _ | .ins _ _, _, q, _ | .obj _, _, q, _ | .frz _, _, q, _ => exact q.elim
theorem re_join (ho : PE X o (tE X.K cl own true h)) (ha : PA X [e] (tA X.K cl own true gs)) (hs : okShape e = true) (hbo : okB o = true) (hl : (apos.endLine == p.line) = true) :
    PE X (.Call (.Attribute o "join" apos) [e] [] p) (tE X.K cl own b fun δ => do
      let x ← h δ
      let ds ← gs δ
      mtD .join x ds) := by
  refine (pe_bm PySem.F.plainAttrs_str PySem.F.slot_str_join PySem.F.type_str_join mt_join ho ha (base_of hbo) (few_one hs) hl (shape_star hs) (noStar rfl)).imp fun σ H Q ⟨ω, δ, S, s, q⟩ => ⟨ω, δ, S, s, ?_⟩
  dsimp only at q
  rw [M.bind_run] at q
  cases eh : h δ S with
  | exc _ _ => rw [eh] at q; exact q.elim
  | no => rw [eh] at q; exact q.elim
  | ok x S1 =>
  rw [eh] at q
  intro ω1 v H1 g1 s1 r1
  have q := pG.go q g1
  dsimp only at q
  rw [M.bind_run] at q
  cases eg : gs δ S1 with
  | exc _ _ => rw [eg] at q; exact q.elim
  | no => rw [eg] at q; exact q.elim
  | ok ds S2 =>
  rw [eg] at q
  match x, ds, q, r1 with
  | .str g, [y], q, r1 =>
    have ev : v = .str g := RepB.str r1
    subst ev
    refine ⟨rfl, ω1, δ, S1, s1, ?_⟩
    rw [eg]
    intro ω2 ws H2 g2 s2 r2
    have q := pG.go q g2
    dsimp only at q
    obtain ⟨w, rfl, rw'⟩ := one_of r2
    unfold mtD at q
    dsimp only at q
    cases eq : seqOf y with
    | none => rw [eq] at q; exact q.elim
    | some l =>
    rw [eq] at q
    dsimp only at q
    cases es : strsOf l with
    | none => rw [es] at q; exact q.elim
    | some xs =>
    rw [es] at q
    dsimp only at q
    split at q
    case isFalse => exact q.elim
    rename_i hz
    have q' : Q (.str (Txt.join g xs)) H2 := pG.ret q s2 (.str _)
    cases y <;> first | (cases eq; done) | skip
    · rename_i l'
      have : l' = l := by simpa [seqOf] using eq
      subst this
      obtain ⟨a, vs, rfl, ha, ra⟩ := rw'.tup.seqT
      obtain rfl := rep_strs ra es
      exact ⟨g, a, xs, rfl, rfl, .inr ha, hz, q'⟩
    · rename_i l'
      have : l' = l := by simpa [seqOf] using eq
      subst this
      obtain ⟨a, vs, rfl, ha, ra⟩ := rw'.seqL
      obtain rfl := rep_strs ra es
      exact ⟨g, a, xs, rfl, rfl, .inl ha, hz, q'⟩
  | .str g, [], q, _ => exact q.elim
  | .str g, _ :: _ :: _, q, _ => exact q.elim
  | .non, _, q, _ | .bl _, _, q, _ | .int _, _, q, _ | .lst _, _, q, _ | .tup _, _, q, _ | .dct _, _, q, _ | .ins _ _, _, q, _ | .obj _, _, q, _ | .frz _, _, q, _ => exact q.elim
/-! ### f-strings -/
/-- the parts' judgements: a written text, or a value in braces -/
inductive PJR (cl : Nat → Addr) (own : List Nat) (X : Cx) : List Expr → List (En → M D) → Prop where
  | nil : PJR cl own X [] []
  | cst {e : Expr} {f : En → M D} {es : List Expr} {fs : List (En → M D)} (h : PE X e (tE X.K cl own true f)) (s : ∀ δ S d S', f δ S = .ok d S' → ∃ y, d = .str y) (r : PJR cl own X es fs) : PJR cl own X (e :: es) (f :: fs)
  | val {e : Expr} {f : En → M D} {pos : Pos} {es : List Expr} {fs : List (En → M D)} (h : PE X e (tE X.K cl own true f)) (r : PJR cl own X es fs) : PJR cl own X (.FormattedValue e (-1) none pos :: es) (f :: fs)
def seqM : List (En → M D) → En → M (List D)
  | [], _ => pure []
  | f :: r, δ => do
    let x ← f δ
    let l ← seqM r δ
    pure (x :: l)
def fsF (acc : Str) (ds : List D) : M D := match fmtsD ds with
  | some xs => if (acc ++ joinS xs).length ≤ line then pure (.str (acc ++ joinS xs)) else M.no
  | none => M.no
theorem str_len (x y : Str) : (x ++ y).length = x.length + y.length := by
  show (x.cps ++ y.cps).size = x.cps.size + y.cps.size
  exact Array.size_append ..
theorem str_assoc (x y z : Str) : x ++ y ++ z = x ++ (y ++ z) := by
  show (⟨x.cps ++ y.cps ++ z.cps⟩ : Str) = ⟨x.cps ++ (y.cps ++ z.cps)⟩
  rw [Array.append_assoc]
theorem str_empty (x : Str) : x ++ Str.empty = x := by
  show (⟨x.cps ++ #[]⟩ : Str) = x
  simp
theorem empty_str (x : Str) : Str.empty ++ x = x := by
  show (⟨#[] ++ x.cps⟩ : Str) = x
  simp
theorem pG_ok {α γ : Type} {R : Wd → Hp → γ → α → Prop} {K : PySem.W.Frag} {ω : Wd} {H : Hp} {σ : L2.St} {δ : En} {Q : γ → Hp → Prop} {x : Out α} (h : pG K cl own R ω H σ δ Q x) : ∃ a s, x = .ok a s := by
  cases x with
  | ok a s => exact ⟨a, s, rfl⟩
  | exc _ _ => exact h.elim
  | no => exact h.elim
theorem js_of : ∀ {es : List Expr} {fs : List (En → M D)}, PJR cl own X es fs → ∃ ts, PJ X es ts ∧ ∀ (acc : Str) (σ : L2.St) (H : Hp) (Q : VK) (ω : Wd) (δ : En) (S : Sto), SR X.K cl own ω σ H δ S → pG X.K cl own (RepF X.K cl b) ω H σ δ Q ((seqM fs δ >>= fsF acc) S) → tJs ts acc σ H fun out H1 => Q (.str out) H1 := by
  intro es fs h
  induction h with
  | nil =>
    refine ⟨[], .nil, fun acc σ H Q ω δ S s q => ?_⟩
    have e : ((seqM [] δ >>= fsF acc) S) = fsF acc [] S := rfl
    rw [e] at q
    unfold fsF fmtsD at q
    dsimp only at q
    split at q
    case isFalse => exact q.elim
    have : Q (.str (acc ++ joinS [])) H := pG.ret q s (.str _)
    rw [show acc ++ joinS [] = acc from str_empty acc] at this
    exact this
  | @cst e f es fs he hs r ih =>
    obtain ⟨ts, h1, h2⟩ := ih
    refine ⟨_ :: ts, .cons he h1, fun acc σ H Q ω δ S s q => ?_⟩
    have e0 : ((seqM (f :: fs) δ >>= fsF acc) S) = ((f δ >>= fun x => seqM fs δ >>= fun l => fsF acc (x :: l)) S) := by
      simp only [seqM, M.bind_run]
      cases f δ S with
      | ok x S1 =>
        dsimp only
        cases seqM fs δ S1 <;> rfl
      | _ => rfl
    rw [e0] at q
    refine ⟨ω, δ, S, s, ?_⟩
    rw [M.bind_run] at q
    cases ef : f δ S with
    | exc _ _ => rw [ef] at q; exact q.elim
    | no => rw [ef] at q; exact q.elim
    | ok x S1 =>
    rw [ef] at q
    obtain ⟨y, rfl⟩ := hs δ S x S1 ef
    intro ω1 v H1 g1 s1 r1
    have q := pG.go q g1
    dsimp only at q
    have ev : v = .str y := RepB.str r1
    subst ev
    obtain ⟨a0, S9, hok⟩ := pG_ok q
    rw [M.bind_run] at hok
    cases eq : seqM fs δ S1 with
    | exc _ _ => rw [eq] at hok; cases hok
    | no => rw [eq] at hok; cases hok
    | ok l S2 =>
    rw [eq] at hok
    dsimp only at hok
    unfold fsF at hok
    by_cases hy : y.length ≤ line
    case neg =>
      have : fmtsD (D.str y :: l) = none := by
        have e0 : fmtD (D.str y) = none := by simp only [fmtD, if_neg hy]
        rw [fmtsD, e0]
      rw [this] at hok
      cases hok
    cases ex : fmtsD l with
    | none =>
      have : fmtsD (D.str y :: l) = none := by
        rw [fmtsD, ex]
        cases fmtD (D.str y) <;> rfl
      rw [this] at hok
      cases hok
    | some xs =>
    have e3 : ∀ l' xs', fmtsD l' = some xs' → fmtsD (D.str y :: l') = some (y :: xs') := fun l' xs' e => by
      rw [fmtsD, e]
      simp only [fmtD, if_pos hy]
    rw [e3 l xs ex] at hok
    dsimp only at hok
    split at hok
    case isFalse => cases hok
    rename_i hz
    have hz' : acc.length + (y.length + (joinS xs).length) ≤ line := by
      rw [joinS, str_len, str_len] at hz
      exact hz
    refine ⟨y, rfl, by rw [str_len, ← line_eq]; omega, h2 (acc ++ y) σ H1 Q ω1 δ S1 s1 ?_⟩
    have e4 : ((seqM fs δ >>= fsF (acc ++ y)) S1) = ((seqM fs δ >>= fun l => fsF acc (D.str y :: l)) S1) := by
      rw [M.bind_run, M.bind_run, eq]
      dsimp only
      unfold fsF
      rw [e3 l xs ex, ex]
      dsimp only
      rw [joinS, str_assoc]
    rw [e4]
    exact q
  | @val e f pos es fs he r ih =>
    obtain ⟨ts, h1, h2⟩ := ih
    refine ⟨_ :: ts, .cons (pe_fmt he) h1, fun acc σ H Q ω δ S s q => ?_⟩
    have e0 : ((seqM (f :: fs) δ >>= fsF acc) S) = ((f δ >>= fun x => seqM fs δ >>= fun l => fsF acc (x :: l)) S) := by
      simp only [seqM, M.bind_run]
      cases f δ S with
      | ok x S1 =>
        dsimp only
        cases seqM fs δ S1 <;> rfl
      | _ => rfl
    rw [e0] at q
    refine ⟨ω, δ, S, s, ?_⟩
    rw [M.bind_run] at q
    cases ef : f δ S with
    | exc _ _ => rw [ef] at q; exact q.elim
    | no => rw [ef] at q; exact q.elim
    | ok x S1 =>
    rw [ef] at q
    intro ω1 v H1 g1 s1 r1
    have q := pG.go q g1
    dsimp only at q
    obtain ⟨a0, S9, hok⟩ := pG_ok q
    rw [M.bind_run] at hok
    cases eq : seqM fs δ S1 with
    | exc _ _ => rw [eq] at hok; cases hok
    | no => rw [eq] at hok; cases hok
    | ok l S2 =>
    rw [eq] at hok
    dsimp only at hok
    unfold fsF at hok
    cases ex : fmtsD l with
    | none =>
      have : fmtsD (x :: l) = none := by
        rw [fmtsD, ex]
        cases fmtD x <;> rfl
      rw [this] at hok
      cases hok
    | some xs =>
    cases ey : fmtD x with
    | none =>
      have : fmtsD (x :: l) = none := by rw [fmtsD, ey]
      rw [this] at hok
      cases hok
    | some y =>
    have e3 : ∀ l' xs', fmtsD l' = some xs' → fmtsD (x :: l') = some (y :: xs') := fun l' xs' e => by rw [fmtsD, e, ey]
    rw [e3 l xs ex] at hok
    dsimp only at hok
    split at hok
    case isFalse => cases hok
    rename_i hz
    have hz' : acc.length + (y.length + (joinS xs).length) ≤ line := by
      rw [joinS, str_len, str_len] at hz
      exact hz
    have fin : ∃ z : Str, V.str y = .str z ∧ (acc ++ z).length ≤ sizeLine ∧ tJs ts (acc ++ z) σ H1 fun out H1 => Q (.str out) H1 := by
      refine ⟨y, rfl, by rw [str_len, ← line_eq]; omega, h2 (acc ++ y) σ H1 Q ω1 δ S1 s1 ?_⟩
      have e4 : ((seqM fs δ >>= fsF (acc ++ y)) S1) = ((seqM fs δ >>= fun l => fsF acc (x :: l)) S1) := by
        rw [M.bind_run, M.bind_run, eq]
        dsimp only
        unfold fsF
        rw [e3 l xs ex, ex]
        dsimp only
        rw [joinS, str_assoc]
      rw [e4]
      exact q
    cases x with
    | int i =>
      simp only [fmtD] at ey
      split at ey
      case isFalse => cases ey
      rename_i hi
      cases ey
      exact .inr ⟨i, RepB.int r1, hi, fin⟩
    | str z =>
      simp only [fmtD] at ey
      split at ey
      case isFalse => cases ey
      rename_i hi
      cases ey
      exact .inl ⟨_, RepB.str r1, by rw [← line_eq]; exact hi, fin⟩
    | _ => cases ey
theorem re_fstr {v1 v2 : Expr} {rest : List Expr} {fs : List (En → M D)} (h : PJR cl own X (v1 :: v2 :: rest) fs) : PE X (.JoinedStr (v1 :: v2 :: rest) pos) (tE X.K cl own b fun δ => do fsF Str.empty (← seqM fs δ)) := by
  obtain ⟨ts, h1, h2⟩ := js_of (b := b) h
  exact (pe_joined h1).imp fun σ H Q ⟨ω, δ, S, s, q⟩ => h2 Str.empty σ H Q ω δ S s q
end
end RF
end
section
set_option linter.all false
set_option maxRecDepth 100000
set_option maxHeartbeats 4000000
set_option autoImplicit false
/-! RfChk1: whether an expression of the program is a given term. -/
namespace RF
open PySem PySem.Spec L2
open PyProof.Rows hiding St
inductive Knd where
  | meth | prop | init
  deriving DecidableEq
/-- what the global names are: defs (number, name, arity, whether the answer is new), constants, builtins, classes -/
structure Tb where
  fns : List (Nat × Str × Nat × Bool × List Str)
  gls : List (Nat × Str × D)
  tbs : List (Nat × Str × List (Str × D))
  bls : List Str
  cls : List Str
  tys : List Ty
  /-- methods: number, class, name, arity, kind -/
  mts : List (Nat × Nat × Str × Nat × Knd) := []
  /-- attributes of instances: class, name -/
  fds : List (Nat × Str) := []
def visB (sc : Scope) (x : Str) : Bool := match sc.names.lookup x with
  | some .local | some .cell | some .free => true
  | _ => false
def locB (sc : Scope) (x : Str) : Bool := match sc.names.lookup x with
  | some .local | some .cell => true
  | _ => false
def plocB (sc : Scope) (x : Str) : Bool := match sc.names.lookup x with
  | some .local => true
  | _ => false
def glB (sc : Scope) (x : Str) : Bool := match sc.names.lookup x with
  | some .globalImplicit => true
  | _ => false
def dbgB (x : Str) : Bool := !(x == ("__debug__" : Str))
def varB (C : Cs) (i : Nat) (x : Str) : Bool := (C.N[i]? == some x) && (visB C.sc x && (dbgB x && !(x == ("__classdict__" : Str))))
def cstB : D → Const → Bool
  | .non, .none => true
  | .bl a, .bool b => a == b
  | .int i, .int j => i == j
  | .str x, .str y => x == y
  | _, _ => false
/-- may be given away -/
def giv (own : List Nat) : X → Bool
  | .var i => !own.contains i
  | .ite _ a b => giv own a && giv own b
  | _ => true
def isN (T : Tb) : X → Bool
  | .lst _ | .dnew | .comp .. | .addN .. | .mulN .. | .cutN .. | .srt _ => true
  | .bi B _ => newBi B
  | .call f _ => match T.fns.lookup f with
    | some (_, _, nw, _) => nw
    | none => false
  | .ite _ a b => isN T a && isN T b
  | _ => false
def blkB (C : Cs) (scope : Scope) (own : List Nat) : Bool :=
  (match scope.kind with | .function => true | _ => false) &&
  (scope.names.all (fun y => scope.names.lookup y.1 == some y.2) &&
  (own.all (fun i => (C.N[i]?).isSome) &&
  (scope.names.all (fun y => match y.2 with
    | .free => (match C.sc.names.lookup y.1 with | some .cell | some .free => true | _ => false)
    | _ => true) &&
  scope.names.all (fun y => match y.2 with
    | .local | .cell => own.any (fun i => C.N[i]? == some y.1) || !C.N.contains y.1
    | _ => true))))
def inBlk (C : Cs) (scope : Scope) : Cs := { C with sc := relS scope C.sc, fb := fun x => scope.names.lookup x == some .cell }
mutual
def chkTg (C : Cs) : Tg → Expr → Bool
  | .nm i, .Name x _ => (C.N[i]? == some x) && (locB C.sc x && ((C.fb x || plocB C.sc x) && !C.own.contains i))
  | .tup ts, .Tuple es _ _ => chkTgs C ts es
  | _, _ => false
def chkTgs (C : Cs) : List Tg → List Expr → Bool
  | [], [] => true
  | t :: ts, e :: es => chkTg C t e && (okShape e && chkTgs C ts es)
  | _, _ => false
end
def tyB (T : Tb) (sc : Scope) : Ty → Expr → Bool
  | .int, .Name x _ => (x == ("int" : Str)) && (glB sc x && T.bls.contains x)
  | .bool, .Name x _ => (x == ("bool" : Str)) && (glB sc x && T.bls.contains x)
  | .str, .Name x _ => (x == ("str" : Str)) && (glB sc x && T.bls.contains x)
  | .tuple, .Name x _ => (x == ("tuple" : Str)) && (glB sc x && T.bls.contains x)
  | .cls c, .Name x _ => (T.cls[c]? == some x) && glB sc x
  | _, _ => false
def wkB (own Mu : List Nat) : X → Bool
  | .var i => !own.contains i || !Mu.contains i
  | a => giv own a
/-- the keywords' names -/
def kwNs (kws : List Keyword) : List Str := kws.filterMap (·.arg)
def kwBo (kws : List Keyword) : Bool := kws.all (·.arg.isSome)
mutual
def chk (T : Tb) (C : Cs) : X → Expr → Bool
  | .var i, .Name x _ => varB C i x
  | .vim i, .Name x _ => varB C i x
  | .cst d, .Constant c _ _ => cstB d c
  | .gl i, .Name x _ => (match T.gls.lookup i with | some (y, _) => y == x | none => false) && glB C.sc x
  | .call f as, .Call (.Name x _) es [] _ => (match T.fns.lookup f with
    | some (y, ar, _, _) => (x == y) && (glB C.sc x && ((as.length == ar) && (chks T C as es && (as.all (giv C.own) && es.all okShape))))
    | none => false)
  | .callK f as ks pm, .Call (.Name x _) es kws _ => (match T.fns.lookup f with
    | some (y, ar, nw, ps) => (x == y) && (glB C.sc x && ((as.length + ks.length == ar) && (chks T C as es && ((as.all (giv C.own) && es.all okShape) && (chkKs T C ks kws && (ks.all (giv C.own) && (!nw && (kwBo kws && ((ps.length == ar) && pmB ps (kwNs kws) as.length pm)))))))))
    | none => false)
  | .bi B as, .Call (.Name x _) (e :: es) [] _ => (x == biNm B) && (glB C.sc x && (T.bls.contains x && (chks T C as (e :: es) && (e :: es).all okShape)))
  | .bin op a b, .BinOp ea op' eb _ => decide (op' = bopOf op) && (chk T C a ea && chk T C b eb)
  | .addN a b, .BinOp ea op' eb _ => decide (op' = .Add) && (chk T C a ea && chk T C b eb)
  | .mulN a b, .BinOp ea op' eb _ => decide (op' = .Mult) && (chk T C a ea && chk T C b eb)
  | .neg a, .UnaryOp .USub ea _ => chk T C a ea
  | .not a, .UnaryOp .Not ea _ => chk T C a ea
  | .cmp op a b, .Compare ea [op'] [eb] _ => decide (op' = copOf op) && (okShape eb && (chk T C a ea && chk T C b eb))
  | .chain op op2 a b c, .Compare ea [op', op2'] [eb, ec] _ => decide (op' = copOf op) && (decide (op2' = copOf op2) && (okShape eb && (okShape ec && (chk T C a ea && (chk T C b eb && chk T C c ec)))))
  | .and l, .BoolOp .And es _ => !l.isEmpty && chks T C l es
  | .or l, .BoolOp .Or es _ => !l.isEmpty && chks T C l es
  | .ite c a b, .IfExp ec ea eb _ => chk T C c ec && (chk T C a ea && chk T C b eb)
  | .tup l, .Tuple es _ _ => chks T C l es && (l.all (giv C.own) && es.all okShape)
  | .lst l, .List es _ => chks T C l es && (l.all (giv C.own) && es.all okShape)
  | .ix a i, .Subscript ea ei _ => okShape ei && (chk T C a ea && chk T C i ei)
  | .cut a lo hi, .Subscript ea (.Slice elo ehi none _) _ => chk T C a ea && (chkO T C lo elo && chkO T C hi ehi)
  | .cutN a lo hi, .Subscript ea (.Slice elo ehi none _) _ => chk T C a ea && (chkO T C lo elo && chkO T C hi ehi)
  | .comp e tg k it ifs ow, .ListComp elt [⟨etg, eit, eifs, 0⟩] scope _ => blkB C scope ow && (chkTg (inBlk C scope) tg etg && (chkI T C [] k it eit etg && (okShape eit && (chkIf T (inBlk C scope) ifs eifs && (chk T (inBlk C scope) e elt &&
      (giv C.own e && (Tg.slots tg).all ow.contains))))))
  | .isi a t, .Call (.Name x _) [ea, eT] [] _ => (x == ("isinstance" : Str)) && (glB C.sc x && (T.bls.contains x && (chk T C a ea && (okShape ea && (tyB T C.sc t eT && T.tys.contains t)))))
  | .dnew, .Dict [] [] _ => true
  | .srt a, .Call (.Name x _) [.Call (.Name y _) [ea] [] _] [] _ => (x == ("sorted" : Str)) && (glB C.sc x && (T.bls.contains x && ((y == ("set" : Str)) && (glB C.sc y && (T.bls.contains y && (chk T C a ea && okShape ea))))))
  | .mkx a, e => chk T C a e && (isN T a && (plainT e && okSw e))
  | .fld c a n, .Attribute ea n' _ => (n == n') && (T.fds.contains (c, n) && (okB ea && chk T C a ea))
  | .prop c f a, .Attribute ea n' _ => decide (T.mts.lookup f = some (c, n', 1, .prop)) && (okB ea && (giv C.own a && chk T C a ea))
  | .mth c m f a as, .Call (.Attribute eo m' apos) es [] pos => (m == m') && (decide (T.mts.lookup f = some (c, m, as.length + 1, .meth)) && (okB eo && (giv C.own a && (chk T C a eo && (chks T C as es && (as.all (giv C.own) && (es.all okShape && (decide (es.length < 29) && (apos.endLine == pos.line)))))))))
  | .newV c f as, .Call (.Name x _) es [] _ => decide (T.mts.lookup f = some (c, ("__init__" : Str), as.length + 1, Knd.init)) && ((T.cls[c]? == some x) && (glB C.sc x && (chks T C as es && (as.all (giv C.own) && es.all okShape))))
  | .meth .index a [y], .Call (.Attribute eo m' apos) [e] [] pos => (m' == ("index" : Str)) && (okB eo && (chk T C a eo && (chk T C y e && (okShape e && (apos.endLine == pos.line)))))
  | .meth .tindex a [y], .Call (.Attribute eo m' apos) [e] [] pos => (m' == ("index" : Str)) && (okB eo && (chk T C a eo && (chk T C y e && (okShape e && (apos.endLine == pos.line)))))
  | .meth .join a [y], .Call (.Attribute eo m' apos) [e] [] pos => (m' == ("join" : Str)) && (okB eo && (chk T C a eo && (chk T C y e && (okShape e && (apos.endLine == pos.line)))))
  | .fstr l, .JoinedStr (e1 :: e2 :: es) _ => chkF T C l (e1 :: e2 :: es)
  | .inG i no a, .Compare ea [op] [.Name x _] _ => decide (op = if no then .NotIn else .In) && ((match T.tbs.lookup i with | some (y, _) => y == x | none => false) && (glB C.sc x && chk T C a ea))
  | .ixG i a, .Subscript (.Name x _) ea _ => (match T.tbs.lookup i with | some (y, _) => y == x | none => false) && (glB C.sc x && (okShape ea && chk T C a ea))
  | _, _ => false
def chks (T : Tb) (C : Cs) : List X → List Expr → Bool
  | [], [] => true
  | a :: as, e :: es => chk T C a e && chks T C as es
  | _, _ => false
/-- an f-string's parts -/
def chkF (T : Tb) (C : Cs) : List X → List Expr → Bool
  | [], [] => true
  | .cst (.str s) :: l, .Constant (.str s') _ _ :: es => (s == s') && chkF T C l es
  | a :: l, .FormattedValue e k none _ :: es => decide (k = -1) && (chk T C a e && chkF T C l es)
  | _, _ => false
def chkKs (T : Tb) (C : Cs) : List X → List Keyword → Bool
  | [], [] => true
  | a :: as, ⟨_, e, _⟩ :: es => chk T C a e && chkKs T C as es
  | _, _ => false
def chkO (T : Tb) (C : Cs) : Option X → Option Expr → Bool
  | none, none => true
  | some a, some e => chk T C a e
  | _, _ => false
def chkIf (T : Tb) (C : Cs) : List X → List Expr → Bool
  | [], [] => true
  | [a], [e] => chk T C a e
  | _, _ => false
/-- what is walked; Mu: the own slots that the turns change -/
def chkI (T : Tb) (C : Cs) (Mu : List Nat) : ItK → List X → Expr → Expr → Bool
  | .seq, [a], e, _ => chk T C a e && wkB C.own Mu a
  | .range1, [a], .Call (.Name x _) [e] [] _, _ => (x == ("range" : Str)) && (glB C.sc x && (T.bls.contains x && (chk T C a e && okShape e)))
  | .range2, [a, b], .Call (.Name x _) [e, e2] [] _, _ => (x == ("range" : Str)) && (glB C.sc x && (T.bls.contains x && (chk T C a e && (okShape e && (chk T C b e2 && okShape e2)))))
  | .range3, [a, b, c], .Call (.Name x _) [e, e2, e3] [] _, _ => (x == ("range" : Str)) && (glB C.sc x && (T.bls.contains x && (chk T C a e && (okShape e && (chk T C b e2 && (okShape e2 && (chk T C c e3 && okShape e3)))))))
  | .enum, [a], .Call (.Name x _) [e] [] _, .Tuple _ _ _ => (x == ("enumerate" : Str)) && (glB C.sc x && (T.bls.contains x && (chk T C a e && (okShape e && wkB C.own Mu a))))
  | _, _, _, _ => false
end
end RF
end
section
set_option linter.all false
set_option maxRecDepth 100000
set_option maxHeartbeats 4000000
set_option autoImplicit false
/-! RfChk2: what passes the check behaves as the term says. -/
namespace RF
open PySem PySem.Spec L2
open PyProof.Rows hiding St
structure XO (P : Program) (w : World) (K : PySem.W.Frag) (mg : Str → Option Value) (base : Heap) (C : Cs) (k : Nat) (X : Cx) : Prop where
  prog : X.prog = P
  w : X.w = w
  K : X.K = K
  mg : X.mg = mg
  base : X.base = base
  N : X.N = C.N
  nd : C.N.Nodup
  sc : X.env.scope = C.sc
  calm : X.calm = true
  room : Room k X.A
  gd : X.A.guards = some []
  fb : ∀ x, C.fb x = true → X.fn x = true
structure TO (P : Program) (w : World) (K : PySem.W.Frag) (mg : Str → Option Value) (base : Heap) (k : Nat) (T : Tb) (Φ : Fns) (cl : Nat → Addr) : Prop where
  fns : ∀ f x ar nw ps, T.fns.lookup f = some (x, ar, nw, ps) → ∃ a fd, mg x = some (.ref a) ∧ PySem.W.keepIn K (.ref a) = true ∧ (Binds K fd ps [] ∧ KwB fd ps) ∧ RF.FnR P w K mg base k a fd ps (if nw = true then spOfN K cl ar (Φ.fn f) else spOf K cl ar (Φ.fn f)) ∧ (x == ("__debug__" : Str)) = false
  gls : ∀ i x d, T.gls.lookup i = some (x, d) → ∃ v u, mg x = some u ∧ RelV v u ∧ (∀ ω H, Rep K cl ω H v (Φ.gl i)) ∧ (x == ("__debug__" : Str)) = false
  tbs : ∀ i x l, T.tbs.lookup i = some (x, l) → ∃ a, mg x = some (.ref a) ∧ (x == ("__debug__" : Str)) = false ∧ (∃ es n, KDict K w a es n) ∧ ∀ z : Str, ∃ r, PySem.W.nsIn K a z = some r ∧ (match (Φ.tb i).lookup z with
    | some d => ∃ u v, r = some u ∧ RelV v u ∧ ∀ ω H, Rep K cl ω H v d
    | none => r = none)
  bls : ∀ x ∈ T.bls, mg x = none
  cls : ∀ c x, T.cls[c]? = some x → mg x = some (.ref (cl c)) ∧ (x == ("__debug__" : Str)) = false
  kit : ∀ t ∈ T.tys, ∀ d, notObj d = true → clsIn Φ.nc d = true → PySem.W.kitOne K (tyD cl d) (kitT cl t) = some (isTy t d)
  clk : ∀ c, c < Φ.nc → ClsOk K (cl c)
  mts : ∀ f c m ar kn, T.mts.lookup f = some (c, m, ar, kn) → ∃ j fd ps, j + 1 ≤ k ∧ Binds K fd ps [] ∧ Cls K (cl c) ∧ (match kn with
    | .meth => ∃ a, Meth K (cl c) m a ∧ RF.FnR P w K mg base j a fd ps (spOf K cl ar (Φ.fn f))
    | .prop => ∃ q a, PropOf K (cl c) m q a ∧ RF.FnR P w K mg base j a fd ps (spOf K cl ar (Φ.fn f))
    | .init => ∃ a, L2.Mk K (cl c) a ∧ RF.FnR P w K mg base j a fd ps (spOf K cl ar (Φ.fn f)))
  fds : ∀ c n, (c, n) ∈ T.fds → Cls K (cl c) ∧ NoAttr K (cl c) n
section
variable {P : Program} {w : World} {K : PySem.W.Frag} {mg : Str → Option Value} {base : Heap} {C : Cs} {k : Nat} {X : Cx} {T : Tb} {Φ : Fns} {cl : Nat → Addr}
theorem XO.blk (o : XO P w K mg base C k X) (s : Shared) (H : Hp) (scope : Scope) (cll : List (Str × Addr)) (A : Addr) (fp : List Addr) : XO P w K mg base (inBlk C scope) k (X.blk s H scope (compEnvC scope cll A X.env) fp) := by
  refine ⟨o.prog, o.w, o.K, o.mg, o.base, o.N, o.nd, ?_, o.calm, o.room, o.gd, fun x h => h⟩
  show relS scope X.env.scope = relS scope C.sc
  rw [o.sc]
theorem gl_of (o : XO P w K mg base C k X) {x : Str} (h : glB C.sc x = true) : Gl X x := by
  show X.env.scope.names.lookup x = _
  rw [o.sc]
  unfold glB at h
  split at h
  · assumption
  · cases h
theorem vis_of (o : XO P w K mg base C k X) {x : Str} (h : visB C.sc x = true) : Vis X.env.scope x := by
  unfold Vis
  rw [o.sc]
  unfold visB at h
  split at h
  · exact .inl ‹_›
  · exact .inr (.inl ‹_›)
  · exact .inr (.inr ‹_›)
  · cases h
theorem loc_of (o : XO P w K mg base C k X) {x : Str} (h : locB C.sc x = true) : Loc X.env.scope x := by
  unfold L2.Loc
  rw [o.sc]
  unfold locB at h
  split at h
  · exact .inl ‹_›
  · exact .inr ‹_›
  · cases h
theorem ploc_of (o : XO P w K mg base C k X) {x : Str} (h : plocB C.sc x = true) : X.env.scope.names.lookup x = some .local := by
  rw [o.sc]
  unfold plocB at h
  split at h
  · assumption
  · cases h
theorem dbg_of {x : Str} (h : dbgB x = true) : (x == ("__debug__" : Str)) = false := by
  unfold dbgB at h
  simpa using h
structure VarOk (X : Cx) (i : Nat) (x : Str) : Prop where
  ix : X.N[i]? = some x
  vis : Vis X.env.scope x
  dbg : (x == ("__debug__" : Str)) = false
  cd : (x == ("__classdict__" : Str)) = false
theorem var_of (o : XO P w K mg base C k X) {i : Nat} {x : Str} (h : varB C i x = true) : VarOk X i x := by
  unfold varB at h
  simp only [Bool.and_eq_true] at h
  obtain ⟨h1, h2, h3, h4⟩ := h
  exact ⟨by rw [o.N]; exact beq_iff_eq.mp h1, vis_of o h2, dbg_of h3, by simpa using h4⟩
theorem blk_of (o : XO P w K mg base C k X) {scope : Scope} {ow : List Nat} (h : blkB C scope ow = true) : ∃ own : List (Str × Nat), own.map (·.2) = ow ∧ BlkOk X.N X.env.scope scope own := by
  unfold blkB at h
  simp only [Bool.and_eq_true, List.all_eq_true] at h
  obtain ⟨h1, h2, h3, h4, h5⟩ := h
  refine ⟨ow.map fun i => ((C.N[i]?).getD "", i), by simp [Function.comp_def], ⟨?_, fun y hy => beq_iff_eq.mp (h2 y hy), fun p hp => ?_, fun y hy e => ?_, fun y hy e => ?_⟩⟩
  · split at h1
    · assumption
    · cases h1
  · obtain ⟨i, hi, rfl⟩ := List.mem_map.mp hp
    have := h3 i hi
    rw [o.N]
    cases e : C.N[i]? with
    | none => rw [e] at this; cases this
    | some y => rfl
  · have := h4 y hy
    rw [e] at this
    rw [o.sc]
    dsimp only at this
    split at this
    · exact .inl ‹_›
    · exact .inr ‹_›
    · cases this
  · have := h5 y hy
    rcases e with e | e <;>
    · rw [e] at this
      simp only [Bool.or_eq_true, Bool.not_eq_true', List.any_eq_true] at this
      rcases this with ⟨i, hi, hx⟩ | hx
      · left
        refine List.mem_map.mpr ⟨(y.1, i), List.mem_map.mpr ⟨i, hi, ?_⟩, rfl⟩
        rw [beq_iff_eq.mp hx]
        rfl
      · right
        rw [o.N]
        intro z
        rw [List.contains_iff_mem.mpr z] at hx
        cases hx
theorem cst_of {d : D} {c : Const} {j : Nat} {pos : Pos} (h : cstB d c = true) : ∃ v, PE X (.Constant c j pos) (tC v) ∧ ∀ ω H, Rep K cl ω H v d := by
  cases d <;> cases c <;> first | cases h | skip
  · exact ⟨.non, pe_non, fun _ _ => .non⟩
  · rename_i a b
    have : a = b := by simpa [cstB] using h
    subst this
    exact ⟨.bl a, pe_bl, fun _ _ => .bl a⟩
  · rename_i a b
    have : a = b := by simpa [cstB] using h
    subst this
    exact ⟨.int a, pe_int, fun _ _ => .int a⟩
  · rename_i a b
    have : a = b := by simpa [cstB] using h
    subst this
    exact ⟨.str a, pe_str, fun _ _ => .str a⟩
mutual
theorem tg_of (o : XO P w K mg base C k X) : ∀ (t : Tg) (e : Expr), chkTg C t e = true → PG X e (tGt X.K cl C.own t) ∧ okShape e = true
  | .nm i, e, h => by
    cases e <;> first | cases h | skip
    simp only [chkTg, Bool.and_eq_true, Bool.or_eq_true, Bool.not_eq_true'] at h
    obtain ⟨h1, h2, h3, h4⟩ := h
    refine ⟨rg_name (by rw [o.N]; exact o.nd) (by rw [o.N]; exact beq_iff_eq.mp h1) (loc_of o h2) (h3.imp (o.fb _) (ploc_of o)) fun z => ?_, rfl⟩
    rw [List.contains_iff_mem.mpr z] at h4
    cases h4
  | .tup ts, e, h => by
    cases e <;> first | cases h | skip
    simp only [chkTg] at h
    obtain ⟨h1, h2, h3⟩ := tgs_of o ts _ h
    exact ⟨rg_tup o.calm h1 h2 h3, rfl⟩
theorem tgs_of (o : XO P w K mg base C k X) : ∀ (ts : List Tg) (es : List Expr), chkTgs C ts es = true → PGs X es (tGts X.K cl C.own ts) ∧ es.all okShape = true ∧ es.length = ts.length
  | [], es, h => by
    cases es <;> first | cases h | skip
    exact ⟨rgs_nil, rfl, rfl⟩
  | t :: ts, es, h => by
    cases es <;> first | cases h | skip
    simp only [chkTgs, Bool.and_eq_true] at h
    obtain ⟨h1, h2, h3⟩ := h
    obtain ⟨g1, g2⟩ := tg_of o t _ h1
    obtain ⟨g3, g4, g5⟩ := tgs_of o ts _ h3
    exact ⟨rgs_cons g1 g3 h2, by rw [List.all_cons, h2, g4]; rfl, by simp [g5]⟩
end
theorem ty_of (o : XO P w K mg base C k X) (t : TO P w K mg base k T Φ cl) {ty : Ty} {e : Expr} (h : tyB T C.sc ty e = true) : PE X e (tC (kitV cl ty)) ∧ okShape e = true := by
  cases ty <;> cases e <;> first | cases h | skip
  all_goals simp only [tyB, Bool.and_eq_true] at h
  · obtain ⟨h1, h2, h3⟩ := h
    have e1 := beq_iff_eq.mp h1
    subst e1
    exact ⟨pe_bltn (gl_of o h2) (by rw [o.mg]; exact t.bls _ (List.contains_iff_mem.mp h3)) (by decide +kernel) rfl, rfl⟩
  · obtain ⟨h1, h2, h3⟩ := h
    have e1 := beq_iff_eq.mp h1
    subst e1
    exact ⟨pe_bltn (gl_of o h2) (by rw [o.mg]; exact t.bls _ (List.contains_iff_mem.mp h3)) (by decide +kernel) rfl, rfl⟩
  · obtain ⟨h1, h2, h3⟩ := h
    have e1 := beq_iff_eq.mp h1
    subst e1
    exact ⟨pe_bltn (gl_of o h2) (by rw [o.mg]; exact t.bls _ (List.contains_iff_mem.mp h3)) (by decide +kernel) rfl, rfl⟩
  · obtain ⟨h1, h2, h3⟩ := h
    have e1 := beq_iff_eq.mp h1
    subst e1
    exact ⟨pe_bltn (gl_of o h2) (by rw [o.mg]; exact t.bls _ (List.contains_iff_mem.mp h3)) (by decide +kernel) rfl, rfl⟩
  · obtain ⟨h1, h2⟩ := h
    obtain ⟨g1, g2⟩ := t.cls _ _ (beq_iff_eq.mp h1)
    exact ⟨pe_glob (gl_of o h2) (by rw [o.mg]; exact g1) rfl g2, rfl⟩
theorem denXs_len : ∀ {l : List RF.X} {δ : En} {S : Sto} {ds : List D} {S' : Sto}, denXs Φ l δ S = .ok ds S' → ds.length = l.length
  | [], _, _, _, _, h => by cases h; rfl
  | a :: l, δ, S, ds, S', h => by
    unfold denXs at h
    rw [M.bind_run] at h
    cases e : denX Φ a δ S with
    | exc _ _ => rw [e] at h; cases h
    | no => rw [e] at h; cases h
    | ok d S1 =>
      rw [e] at h
      dsimp only at h
      rw [M.bind_run] at h
      cases e2 : denXs Φ l δ S1 with
      | exc _ _ => rw [e2] at h; cases h
      | no => rw [e2] at h; cases h
      | ok ds2 S2 =>
        rw [e2] at h
        cases h
        simp [denXs_len e2]
end
end RF
end
section
set_option linter.all false
set_option maxRecDepth 100000
set_option maxHeartbeats 4000000
set_option autoImplicit false
/-! RfChk3: expressions. -/
namespace RF
open PySem PySem.Spec L2
open PyProof.Rows hiding St
section
variable {P : Program} {w : World} {K : PySem.W.Frag} {mg : Str → Option Value} {base : Heap} {k : Nat} {T : Tb} {Φ : Fns} {cl : Nat → Addr}
theorem tE_congr {K : PySem.W.Frag} {own : List Nat} {X : Cx} {e : Expr} {b : Bool} {f g : En → M D} (h : PE X e (tE K cl own b f)) (k : ∀ δ S, f δ S = g δ S) : PE X e (tE K cl own b g) :=
  h.imp fun σ H Q z => tG_congr k z
theorem tT_congr {K : PySem.W.Frag} {own : List Nat} {X : Cx} {e : Expr} {f g : En → M Bool} (h : PT X e (tT K cl own f)) (k : ∀ δ S, f δ S = g δ S) : PT X e (tT K cl own g) :=
  h.imp fun σ H Q z => tG_congr k z
theorem tN_congr {K : PySem.W.Frag} {own : List Nat} {X : Cx} {e : Expr} {f g : En → M D} (h : PE X e (tN1 K cl own f)) (k : ∀ δ S, f δ S = g δ S) : PE X e (tN1 K cl own g) :=
  h.imp fun σ H Q ⟨ω, δ, S, s, q⟩ => ⟨ω, δ, S, s, by rw [k]; exact q⟩
/-- what a checked expression is good for -/
structure Snd (K : PySem.W.Frag) (cl : Nat → Addr) (Φ : Fns) (T : Tb) (own : List Nat) (X : Cx) (x : RF.X) (e : Expr) : Prop where
  ev : ∀ b : Bool, (b = false → giv own x = true) → PE X e (tE K cl own b (denX Φ x))
  nw : isN T x = true → PE X e (tN1 K cl own (denX Φ x))
structure SndT (K : PySem.W.Frag) (cl : Nat → Addr) (Φ : Fns) (own : List Nat) (X : Cx) (x : RF.X) (e : Expr) : Prop where
  t : PT X e (tT K cl own fun δ => do asB (← denX Φ x δ))
theorem snd_a {K : PySem.W.Frag} {own : List Nat} {X : Cx} : ∀ {l : List RF.X} {es : List Expr}, (∀ (a : RF.X) (e : Expr), (a, e) ∈ l.zip es → Snd K cl Φ T own X a e) → l.length = es.length → es.all okShape = true → ∀ b : Bool, (b = false → l.all (giv own) = true) → PA X es (tA K cl own b (denXs Φ l))
  | [], [], _, _, _, b, _ => ra_nil
  | [], e :: es, _, h, _, _, _ => by cases h
  | a :: l, [], _, h, _, _, _ => by cases h
  | a :: l, e :: es, hs, hl, ho, b, hb => by
    rw [List.all_cons, Bool.and_eq_true] at ho
    have hb' : b = false → giv own a = true ∧ l.all (giv own) = true := fun z => by
      have := hb z
      rwa [List.all_cons, Bool.and_eq_true] at this
    exact ra_cons ((hs a e (by simp)).ev b fun z => (hb' z).1) (snd_a (fun a' e' hm => hs a' e' (by simp [hm])) (by simpa using hl) ho.2 b fun z => (hb' z).2) ho.1
theorem snd_k {K : PySem.W.Frag} {own : List Nat} {X : Cx} : ∀ {l : List RF.X} {es : List Keyword}, (∀ (a : RF.X) (e : Keyword), (a, e) ∈ l.zip es → Snd K cl Φ T own X a e.value) → l.length = es.length → l.all (giv own) = true → PK X es (tA K cl own false (denXs Φ l))
  | [], [], _, _, _ => rk_nil
  | [], e :: es, _, h, _ => by cases h
  | a :: l, [], _, h, _ => by cases h
  | a :: l, ⟨nm, e, kp⟩ :: es, hs, hl, hb => by
    rw [List.all_cons, Bool.and_eq_true] at hb
    exact rk_cons ((hs a ⟨nm, e, kp⟩ (by simp)).ev false fun _ => hb.1) (snd_k (fun a' e' hm => hs a' e' (by simp [hm])) (by simpa using hl) hb.2)
theorem kw_names : ∀ {kws : List Keyword}, kwBo kws = true → kws.map (·.arg) = (kwNs kws).map some
  | [], _ => rfl
  | ⟨none, e, p⟩ :: kws, h => by simp [kwBo] at h
  | ⟨some n, e, p⟩ :: kws, h => by
    have h' : kwBo kws = true := by simpa [kwBo] using h
    have := kw_names h'
    simp only [kwNs, List.filterMap_cons, List.map_cons] at this ⊢
    rw [this]
theorem snd_and {K : PySem.W.Frag} {own : List Nat} {X : Cx} {pos : Pos} {b : Bool} : ∀ {l : List RF.X} {es : List Expr}, (∀ (a : RF.X) (e : Expr), (a, e) ∈ l.zip es → Snd K cl Φ T own X a e) → l.length = es.length → l ≠ [] → PE X (.BoolOp .And es pos) (tE K cl own b (bB (denAnd Φ l)))
  | [], _, _, _, h => absurd rfl h
  | a :: l, [], _, h, _ => by cases h
  | [a], [e], hs, _, _ => tE_congr (re_and1 ((hs a e (by simp)).ev true fun z => nomatch z)) fun δ S => by simp only [bB, denAnd]
  | [a], e :: e' :: es, _, h, _ => by cases h
  | a :: a' :: l, [e], _, h, _ => by cases h
  | a :: a' :: l, e :: e' :: es, hs, hl, _ =>
    tE_congr (re_and ((hs a e (by simp)).ev true fun z => nomatch z) (snd_and (l := a' :: l) (es := e' :: es) (fun x y hm => hs x y (List.mem_cons_of_mem _ hm)) (by simpa using hl) (by simp))) fun δ S => by rw [show denAnd Φ (a :: a' :: l) = _ from rfl]; rfl
theorem snd_or {K : PySem.W.Frag} {own : List Nat} {X : Cx} {pos : Pos} {b : Bool} : ∀ {l : List RF.X} {es : List Expr}, (∀ (a : RF.X) (e : Expr), (a, e) ∈ l.zip es → Snd K cl Φ T own X a e) → l.length = es.length → l ≠ [] → PE X (.BoolOp .Or es pos) (tE K cl own b (bB (denOr Φ l)))
  | [], _, _, _, h => absurd rfl h
  | a :: l, [], _, h, _ => by cases h
  | [a], [e], hs, _, _ => tE_congr (re_or1 ((hs a e (by simp)).ev true fun z => nomatch z)) fun δ S => by simp only [bB, denOr]
  | [a], e :: e' :: es, _, h, _ => by cases h
  | a :: a' :: l, [e], _, h, _ => by cases h
  | a :: a' :: l, e :: e' :: es, hs, hl, _ =>
    tE_congr (re_or ((hs a e (by simp)).ev true fun z => nomatch z) (snd_or (l := a' :: l) (es := e' :: es) (fun x y hm => hs x y (List.mem_cons_of_mem _ hm)) (by simpa using hl) (by simp))) fun δ S => by rw [show denOr Φ (a :: a' :: l) = _ from rfl]; rfl
theorem snd_andT {K : PySem.W.Frag} {own : List Nat} {X : Cx} {pos : Pos} : ∀ {l : List RF.X} {es : List Expr}, (∀ (a : RF.X) (e : Expr), (a, e) ∈ l.zip es → SndT K cl Φ own X a e) → l.length = es.length → l ≠ [] → PW X (.BoolOp .And es pos) (tT K cl own (denAnd Φ l))
  | [], _, _, _, h => absurd rfl h
  | a :: l, [], _, h, _ => by cases h
  | [a], [e], hs, _, _ => (rw_and1 ((hs a e (by simp)).t)).imp fun σ H Q z => tG_congr (fun δ S => by simp only [denAnd, M.bind_run]; cases denX Φ a δ S <;> rfl) z
  | [a], e :: e' :: es, _, h, _ => by cases h
  | a :: a' :: l, [e], _, h, _ => by cases h
  | a :: a' :: l, e :: e' :: es, hs, hl, _ =>
    (rw_and ((hs a e (by simp)).t) (snd_andT (l := a' :: l) (es := e' :: es) (fun x y hm => hs x y (List.mem_cons_of_mem _ hm)) (by simpa using hl) (by simp))).imp fun σ H Q z => tG_congr (fun δ S => by
      rw [show denAnd Φ (a :: a' :: l) = fun δ => (do if ← asB (← denX Φ a δ) then denAnd Φ (a' :: l) δ else pure false) from rfl]
      simp only [M.bind_run]
      cases denX Φ a δ S <;> rfl) z
theorem snd_orT {K : PySem.W.Frag} {own : List Nat} {X : Cx} {pos : Pos} : ∀ {l : List RF.X} {es : List Expr}, (∀ (a : RF.X) (e : Expr), (a, e) ∈ l.zip es → SndT K cl Φ own X a e) → l.length = es.length → l ≠ [] → PW X (.BoolOp .Or es pos) (tT K cl own (denOr Φ l))
  | [], _, _, _, h => absurd rfl h
  | a :: l, [], _, h, _ => by cases h
  | [a], [e], hs, _, _ => (rw_or1 ((hs a e (by simp)).t)).imp fun σ H Q z => tG_congr (fun δ S => by simp only [denOr, M.bind_run]; cases denX Φ a δ S <;> rfl) z
  | [a], e :: e' :: es, _, h, _ => by cases h
  | a :: a' :: l, [e], _, h, _ => by cases h
  | a :: a' :: l, e :: e' :: es, hs, hl, _ =>
    (rw_or ((hs a e (by simp)).t) (snd_orT (l := a' :: l) (es := e' :: es) (fun x y hm => hs x y (List.mem_cons_of_mem _ hm)) (by simpa using hl) (by simp))).imp fun σ H Q z => tG_congr (fun δ S => by
      rw [show denOr Φ (a :: a' :: l) = fun δ => (do if ← asB (← denX Φ a δ) then pure true else denOr Φ (a' :: l) δ) from rfl]
      simp only [M.bind_run]
      cases denX Φ a δ S <;> rfl) z
theorem both_of {K : PySem.W.Frag} {own : List Nat} {X : Cx} {x : RF.X} {e : Expr} (ev : ∀ b : Bool, (b = false → giv own x = true) → PE X e (tE K cl own b (denX Φ x))) (nw : isN T x = true → PE X e (tN1 K cl own (denX Φ x))) (pl : plainT e = true) :
    Snd K cl Φ T own X x e ∧ SndT K cl Φ own X x e := ⟨⟨ev, nw⟩, ⟨rt_val (ev true fun z => nomatch z) pl⟩⟩
theorem new_of {K : PySem.W.Frag} {own : List Nat} {X : Cx} {x : RF.X} {e : Expr} (nw : PE X e (tN1 K cl own (denX Φ x))) (pl : plainT e = true) :
    Snd K cl Φ T own X x e ∧ SndT K cl Φ own X x e := both_of (fun b _ => pe_give nw b) (fun _ => nw) pl
theorem not_own {own : List Nat} {i : Nat} (h : giv own (.var i) = true) : i ∉ own := fun z => by
  unfold giv at h
  rw [List.contains_iff_mem.mpr z] at h
  cases h
theorem wk_of {K : PySem.W.Frag} {own Mu : List Nat} {X : Cx} {x : RF.X} {e : Expr} (s : Snd K cl Φ T own X x e) (h : wkB own Mu x = true) (hv : ∀ i, x = .var i → ∃ y pos, e = .Name y pos ∧ VarOk X i y) : PE X e (tG K cl own (RepW K cl Mu) (denX Φ x)) := by
  by_cases g : giv own x = true
  · exact rw_giv (s.ev false fun _ => g)
  · cases x with
    | var i =>
      obtain ⟨y, pos, rfl, V⟩ := hv i rfl
      have hi : i ∈ own := by
        unfold giv at g
        simpa using g
      have hm : i ∉ Mu := by
        unfold wkB at h
        dsimp only at h
        rw [List.contains_iff_mem.mpr hi] at h
        simpa using h
      exact rw_var V.ix V.vis V.dbg V.cd hm hi
    | _ => exact absurd h g
/-- something new goes into the store -/
theorem re_mkx {K : PySem.W.Frag} {own : List Nat} {X : Cx} {e : Expr} {f : En → M D} {b : Bool} (h : PE X e (tN1 K cl own f)) : PE X e (tE K cl own b fun δ => do
    let d ← f δ
    fun s => .ok (.obj s.length) (s ++ [d])) := by
  refine h.imp fun σ H Q ⟨ω, δ, S, s, q⟩ => ⟨ω, δ, S, s, ?_⟩
  dsimp only at q
  rw [M.bind_run] at q
  cases e : f δ S with
  | exc _ _ => rw [e] at q; exact q.elim
  | no => rw [e] at q; exact q.elim
  | ok d S' =>
    rw [e] at q
    intro ω' a H' n s' o
    obtain ⟨g, ea⟩ := n.sto s.wok []
    obtain ⟨s2, hr⟩ := s'.sto1 ((n.av a).mpr (.inr (by simp))) o
    exact q (ω'.sto a) (.ref a) H' ⟨g, n.eq, ea⟩ s2 (RepF.of hr)
theorem re_inG {K : PySem.W.Frag} {own : List Nat} {X : Cx} {no : Bool} {a : Expr} {x : Str} {p pos : Pos} {f : En → M D} {b : Bool} {A : Addr} {es : Array DictEntry} {n : Nat} {l : List (Str × D)} (D : KDict X.K X.w A es n) (hg : Gl X x) (hm : X.mg x = some (.ref A)) (hd : (x == ("__debug__" : Str)) = false)
    (hl : ∀ z : Str, ∃ r, PySem.W.nsIn X.K A z = some r ∧ (match l.lookup z with
      | some d => ∃ u v, r = some u ∧ RelV v u ∧ ∀ ω H, Rep K cl ω H v d
      | none => r = none)) (ha : PE X a (tE K cl own true f)) :
    PE X (.Compare a [if no then .NotIn else .In] [.Name x p] pos) (tE K cl own b fun δ => do inGF l no (← f δ)) ∧
      PT X (.Compare a [if no then .NotIn else .In] [.Name x p] pos) (tT K cl own fun δ => do asB (← (do inGF l no (← f δ) : M RF.D))) := by
  have hr : OpR X (compareOp (if no then .NotIn else .In)) (fun x y H Q => ∃ (z : Str) (r : Option Value), x = .str z ∧ y = .ref A ∧ PySem.W.nsIn X.K A z = some r ∧ Q (.bl (if no then !r.isSome else r.isSome)) H) := by
    cases no with
    | true => exact op_notIn_kd D
    | false => exact op_in_kd D
  have hv := pe_glob (pos := p) hg hm (v := .ref A) rfl hd
  have hsome : ∀ z r, PySem.W.nsIn X.K A z = some r → r.isSome = (l.lookup z).isSome := fun z r e => by
    obtain ⟨r', e', q⟩ := hl z
    rw [e] at e'
    cases e'
    cases h : l.lookup z with
    | none => rw [h] at q; rw [q]; rfl
    | some d => rw [h] at q; obtain ⟨u, v, rfl, _⟩ := q; rfl
  constructor
  · refine (pe_cmpR hr ha hv (by cases no <;> rfl)).imp fun σ H Q ⟨ω, δ, S, s, q⟩ => ?_
    refine ⟨ω, δ, S, s, pG_bind q fun ω1 v H1 x S1 g1 s1 r1 q1 => ?_⟩
    cases x with
    | str z =>
      obtain ⟨r, e, _⟩ := hl z
      refine ⟨z, r, RepB.str r1, rfl, e, ?_⟩
      rw [hsome z r e]
      exact pG.ret q1 s1 (.bl _)
    | _ => exact q1.elim
  · refine (pt_cmpR hr ha hv (by cases no <;> rfl)).imp fun σ H Q ⟨ω, δ, S, s, q⟩ => ?_
    refine ⟨ω, δ, S, s, ?_⟩
    dsimp only at q
    rw [M.bind_run, M.bind_run] at q
    cases e1 : f δ S with
    | exc _ _ => rw [e1] at q; exact q.elim
    | no => rw [e1] at q; exact q.elim
    | ok x S1 =>
      rw [e1] at q
      intro ω1 v H1 g1 s1 r1
      cases x with
      | str z =>
        obtain ⟨r, e, _⟩ := hl z
        refine ⟨z, r, RepB.str r1, rfl, e, _, rfl, ?_⟩
        rw [hsome z r e]
        exact q ω1 _ H1 g1 s1 rfl
      | _ => exact q.elim
theorem re_ixG {K : PySem.W.Frag} {own : List Nat} {X : Cx} {a : Expr} {x : Str} {p pos : Pos} {f : En → M D} {b : Bool} {A : Addr} {es : Array DictEntry} {n : Nat} {l : List (Str × D)} (D : KDict X.K X.w A es n) (hg : Gl X x) (hm : X.mg x = some (.ref A)) (hd : (x == ("__debug__" : Str)) = false) (hs : okShape a = true)
    (hl : ∀ z : Str, ∃ r, PySem.W.nsIn X.K A z = some r ∧ (match l.lookup z with
      | some d => ∃ u v, r = some u ∧ RelV v u ∧ ∀ ω H, Rep K cl ω H v d
      | none => r = none)) (ha : PE X a (tE K cl own true f)) :
    PE X (.Subscript (.Name x p) a pos) (tE K cl own b fun δ => do ixGF l (← f δ)) := by
  have hv := pe_glob (pos := p) hg hm (v := .ref A) rfl hd
  refine (pe_ix ix_kdict hv ha (shape_ix hs)).imp fun σ H Q ⟨ω, δ, S, s, q⟩ => ?_
  refine ⟨ω, δ, S, s, pG_bind q fun ω1 v H1 x S1 g1 s1 r1 q1 => ?_⟩
  cases x with
  | str z =>
    obtain ⟨r, e, q⟩ := hl z
    unfold ixGF at q1
    cases h : l.lookup z with
    | none => simp only [h] at q1; exact q1.elim
    | some d =>
      simp only [h] at q1
      rw [h] at q
      obtain ⟨u, v', rfl, ru, rr⟩ := q
      exact ⟨A, z, v', rfl, RepB.str r1, ⟨es, n, u, D.at_, D.lit, e, ru⟩, pG.ret q1 s1 (rr _ _)⟩
  | _ => exact q1.elim
/-- what is walked -/
noncomputable def itF (Φ : Fns) (k : ItK) (it : List RF.X) : En → M (List D) := fun δ => do M.ofO (itemsOf k (← denXs Φ it δ))
mutual
theorem snd : ∀ (x : RF.X) (C : Cs) (X : Cx) (e : Expr), XO X.prog X.w X.K X.mg X.base C k X → TO X.prog X.w X.K X.mg X.base k T Φ cl → chk T C x e = true → Snd X.K cl Φ T C.own X x e ∧ SndT X.K cl Φ C.own X x e
  | .var i, C, X, e, o, t, h => by
    cases e <;> first | cases h | skip
    have V := var_of o (by simpa only [chk] using h)
    exact both_of (fun b hb => re_var V.ix V.vis V.dbg V.cd fun hi => by
      cases b with
      | true => rfl
      | false => exact absurd hi (not_own (hb rfl))) (fun z => nomatch z) rfl
  | .vim i, C, X, e, o, t, h => by
    cases e <;> first | cases h | skip
    have V := var_of o (by simpa only [chk] using h)
    exact both_of (fun b _ => re_vim V.ix V.vis V.dbg V.cd) (fun z => nomatch z) rfl
  | .cst d, C, X, e, o, t, h => by
    cases e <;> first | cases h | skip
    obtain ⟨v, h1, h2⟩ := cst_of (K := X.K) (cl := cl) (by simpa only [chk] using h)
    exact both_of (fun b _ => re_cst h1 h2) (fun z => nomatch z) rfl
  | .gl i, C, X, e, o, t, h => by
    cases e <;> first | cases h | skip
    simp only [chk, Bool.and_eq_true] at h
    cases eg : T.gls.lookup i with
    | none => rw [eg] at h; exact absurd h.1 Bool.false_ne_true
    | some r =>
    obtain ⟨y, d⟩ := r
    rw [eg] at h
    have ey := beq_iff_eq.mp h.1
    subst ey
    obtain ⟨v, u, h1, h2, h3, h4⟩ := t.gls i _ d eg
    exact both_of (fun b _ => re_cst (pe_glob (gl_of o h.2) h1 h2 h4) h3) (fun z => nomatch z) rfl
  | .call f as, C, X, e, o, t, h => by
    cases e <;> first | cases h | skip
    rename_i fe es kws pos
    cases fe <;> first | cases h | skip
    cases kws <;> first | cases h | skip
    rename_i x p
    simp only [chk] at h
    cases ef : T.fns.lookup f with
    | none => rw [ef] at h; cases h
    | some r =>
      obtain ⟨y, ar, nw, ps⟩ := r
      rw [ef] at h
      simp only [Bool.and_eq_true] at h
      obtain ⟨h1, h2, h3, h4, h5, h6⟩ := h
      have e1 := beq_iff_eq.mp h1
      have e3 := beq_iff_eq.mp h3
      subst e1
      obtain ⟨a, fd, g1, g2, ⟨g3, _⟩, g4, g5⟩ := t.fns f x ar nw ps ef
      obtain ⟨k1, k2⟩ := sndl as C X es o t h4
      have ha := snd_a (fun a e hm => (k1 a e hm).1) k2 h6 false fun _ => h5
      have hgl : ∀ δ S ds S', denXs Φ as δ S = .ok ds S' → ds.length = ar := fun δ S ds S' z => (denXs_len z).trans e3
      have hden : ∀ δ S, (do Φ.fn f (← denXs Φ as δ) : M D) S = denX Φ (.call f as) δ S := fun δ S => rfl
      cases nw with
      | true =>
        simp only [if_true] at g4
        refine new_of ?_ rfl
        cases es with
        | nil =>
          cases as with
          | cons _ _ => cases k2
          | nil =>
            have e4 : ar = 0 := e3.symm
            subst e4
            exact tN_congr (rn_call0 g4 o.room o.gd (gl_of o h2) g1 g2 g3 g5) hden
        | cons e0 es =>
          have h6' : okShape e0 = true ∧ es.all okShape = true := by simpa using h6
          exact tN_congr (rn_call g4 o.room o.gd (gl_of o h2) g1 g2 g3 g5 ha h6' hgl) hden
      | false =>
        simp only [Bool.false_eq_true, if_false] at g4
        refine both_of (fun b _ => ?_) (fun z => by simp [isN, ef] at z) rfl
        cases es with
        | nil =>
          cases as with
          | cons _ _ => cases k2
          | nil =>
            have e4 : ar = 0 := e3.symm
            subst e4
            exact tE_congr (re_call0 g4 o.room o.gd (gl_of o h2) g1 g2 g3 g5) hden
        | cons e0 es =>
          have h6' : okShape e0 = true ∧ es.all okShape = true := by simpa using h6
          exact tE_congr (re_call g4 o.room o.gd (gl_of o h2) g1 g2 g3 g5 ha h6' hgl) hden
  | .callK f as ks pm, C, X, e, o, t, h => by
    cases e <;> first | cases h | skip
    rename_i fe es kws pos
    cases fe <;> first | cases h | skip
    rename_i x p
    simp only [chk] at h
    cases ef : T.fns.lookup f with
    | none => rw [ef] at h; cases h
    | some r =>
      obtain ⟨y, ar, nw, ps⟩ := r
      rw [ef] at h
      simp only [Bool.and_eq_true, Bool.not_eq_true'] at h
      obtain ⟨h1, h2, h3, h4, ⟨h5, h6⟩, h7, h8, h9, h10, h11, h12⟩ := h
      have e1 := beq_iff_eq.mp h1
      have e3 := beq_iff_eq.mp h3
      have e4 := beq_iff_eq.mp h11
      subst e1
      subst h9
      obtain ⟨a, fd, g1, g2, ⟨_, g3⟩, g4, g5⟩ := t.fns f x ar false ps ef
      simp only [Bool.false_eq_true, if_false] at g4
      obtain ⟨k1, k2⟩ := sndl as C X es o t h4
      have ha := snd_a (fun a e hm => (k1 a e hm).1) k2 h6 false fun _ => h5
      obtain ⟨k3, k4⟩ := sndk ks C X kws o t h7
      have hkk := snd_k (fun a e hm => (k3 a e hm).1) k4 h8
      have hn := kw_names h10
      have hks : (kwNs kws).length = ks.length := by
        have := congrArg List.length hn
        simp only [List.length_map] at this
        omega
      have hgk : ∀ δ S ds S', denXs Φ ks δ S = .ok ds S' → (kwNs kws).length = ds.length := fun δ S ds S' z => by rw [denXs_len z, hks]
      refine both_of (fun b _ => ?_) (fun z => by cases z) rfl
      cases es with
      | nil =>
        cases as with
        | cons _ _ => cases k2
        | nil =>
          have hd0 : ∀ δ S, (do let c ← denXs Φ ks δ; Φ.fn f (permD pm c) : M D) S = denX Φ (.callK f [] ks pm) δ S := fun δ S => rfl
          exact tE_congr (re_callK0 g4 o.room o.gd (gl_of o h2) g1 g2 g3 g5 hkk hn e4 h12 hgk) hd0
      | cons e0 es =>
        have h6' : okShape e0 = true ∧ es.all okShape = true := by simpa using h6
        exact tE_congr (re_callK g4 o.room o.gd (gl_of o h2) g1 g2 g3 g5 ha hkk h6' hn e4 h12 (fun δ S ds S' z => denXs_len z) hgk) fun δ S => rfl
  | .bi B as, C, X, e, o, t, h => by
    cases e <;> first | cases h | skip
    rename_i fe es kws pos
    cases fe <;> first | cases h | skip
    cases es <;> first | cases h | skip
    cases kws <;> first | cases h | skip
    rename_i x p e0 es
    simp only [chk, Bool.and_eq_true] at h
    obtain ⟨h1, h2, h3, h4, h6⟩ := h
    obtain ⟨k1, k2⟩ := sndl as C X (e0 :: es) o t h4
    have ha := snd_a (fun a e hm => (k1 a e hm).1) k2 h6 true fun z => nomatch z
    have h6' : okShape e0 = true ∧ es.all okShape = true := by simpa using h6
    have hm : X.mg x = none := t.bls _ (List.contains_iff_mem.mp h3)
    have hden : ∀ δ S, (do biD B (← denXs Φ as δ) : M D) S = denX Φ (.bi B as) δ S := fun δ S => rfl
    exact both_of (fun b _ => tE_congr (re_bi o.room o.calm o.gd (beq_iff_eq.mp h1) (gl_of o h2) hm ha h6'.1 h6'.2) hden)
      (fun z => tN_congr (rn_bi o.room o.calm o.gd (beq_iff_eq.mp h1) (gl_of o h2) hm ha h6'.1 h6'.2 z) hden) rfl
  | .bin op a b, C, X, e, o, t, h => by
    cases e <;> first | cases h | skip
    simp only [chk, Bool.and_eq_true, decide_eq_true_eq] at h
    obtain ⟨rfl, h1, h2⟩ := h
    have sa := (snd a C X _ o t h1).1
    have sb := (snd b C X _ o t h2).1
    exact both_of (fun bb _ => re_bin (sa.ev true fun z => nomatch z) (sb.ev true fun z => nomatch z)) (fun z => nomatch z) rfl
  | .addN a b, C, X, e, o, t, h => by
    cases e <;> first | cases h | skip
    simp only [chk, Bool.and_eq_true, decide_eq_true_eq] at h
    obtain ⟨rfl, h1, h2⟩ := h
    have sa := (snd a C X _ o t h1).1
    have sb := (snd b C X _ o t h2).1
    exact new_of (rn_add (sa.ev true fun z => nomatch z) (sb.ev true fun z => nomatch z)) rfl
  | .mulN a b, C, X, e, o, t, h => by
    cases e <;> first | cases h | skip
    simp only [chk, Bool.and_eq_true, decide_eq_true_eq] at h
    obtain ⟨rfl, h1, h2⟩ := h
    have sa := (snd a C X _ o t h1).1
    have sb := (snd b C X _ o t h2).1
    exact new_of (rn_mul (sa.ev true fun z => nomatch z) (sb.ev true fun z => nomatch z)) rfl
  | .neg a, C, X, e, o, t, h => by
    cases e <;> first | cases h | skip
    rename_i op ea pos
    cases op <;> first | cases h | skip
    have sa := (snd a C X _ o t (by simpa only [chk] using h)).1
    exact both_of (fun b _ => re_neg (sa.ev true fun z => nomatch z)) (fun z => nomatch z) rfl
  | .not a, C, X, e, o, t, h => by
    cases e <;> first | cases h | skip
    rename_i op ea pos
    cases op <;> first | cases h | skip
    obtain ⟨sa, ta⟩ := snd a C X _ o t (by simpa only [chk] using h)
    refine ⟨⟨fun b _ => re_not (sa.ev true fun z => nomatch z), fun z => nomatch z⟩, ⟨tT_congr (rt_not ta.t) fun δ S => ?_⟩⟩
    simp only [denX, M.bind_run]
    cases denX Φ a δ S with
    | ok d s => cases d <;> rfl
    | _ => rfl
  | .cmp op a b, C, X, e, o, t, h => by
    cases e <;> first | cases h | skip
    rename_i ea ops cs pos
    rcases ops with _ | ⟨op', _ | ⟨_, _⟩⟩ <;> first | cases h | skip
    rcases cs with _ | ⟨eb, _ | ⟨_, _⟩⟩ <;> first | cases h | skip
    simp only [chk, Bool.and_eq_true, decide_eq_true_eq] at h
    obtain ⟨rfl, h0, h1, h2⟩ := h
    have sa := (snd a C X _ o t h1).1.ev true fun z => nomatch z
    have sb := (snd b C X _ o t h2).1.ev true fun z => nomatch z
    exact ⟨⟨fun bb _ => re_cmp o.room h0 sa sb, fun z => nomatch z⟩, ⟨tT_congr (rt_cmp o.room h0 sa sb) fun δ S => rfl⟩⟩
  | .chain op op2 a b c, C, X, e, o, t, h => by
    cases e <;> first | cases h | skip
    rename_i ea ops cs pos
    rcases ops with _ | ⟨op', _ | ⟨op2', _ | ⟨_, _⟩⟩⟩ <;> first | cases h | skip
    rcases cs with _ | ⟨eb, _ | ⟨ec, _ | ⟨_, _⟩⟩⟩ <;> first | cases h | skip
    simp only [chk, Bool.and_eq_true, decide_eq_true_eq] at h
    obtain ⟨rfl, rfl, h0, h0', h1, h2, h3⟩ := h
    have sa := (snd a C X _ o t h1).1.ev true fun z => nomatch z
    have sb := (snd b C X _ o t h2).1.ev true fun z => nomatch z
    have sc := (snd c C X _ o t h3).1.ev true fun z => nomatch z
    exact ⟨⟨fun bb _ => re_chain o.room h0' sa sb sc, fun z => nomatch z⟩, ⟨tT_congr (rt_chain o.room h0' sa sb sc) fun δ S => rfl⟩⟩
  | .and l, C, X, e, o, t, h => by
    cases e <;> first | cases h | skip
    rename_i op es pos
    cases op <;> first | cases h | skip
    simp only [chk, Bool.and_eq_true, Bool.not_eq_true', List.isEmpty_eq_false_iff] at h
    obtain ⟨k1, k2⟩ := sndl l C X es o t h.2
    refine ⟨⟨fun b _ => tE_congr (snd_and (fun a e hm => (k1 a e hm).1) k2 h.1) fun δ S => rfl, fun z => nomatch z⟩, ⟨tT_congr (snd_andT (fun a e hm => (k1 a e hm).2) k2 h.1).pt fun δ S => ?_⟩⟩
    simp only [denX, M.bind_run]
    cases denAnd Φ l δ S <;> rfl
  | .or l, C, X, e, o, t, h => by
    cases e <;> first | cases h | skip
    rename_i op es pos
    cases op <;> first | cases h | skip
    simp only [chk, Bool.and_eq_true, Bool.not_eq_true', List.isEmpty_eq_false_iff] at h
    obtain ⟨k1, k2⟩ := sndl l C X es o t h.2
    refine ⟨⟨fun b _ => tE_congr (snd_or (fun a e hm => (k1 a e hm).1) k2 h.1) fun δ S => rfl, fun z => nomatch z⟩, ⟨tT_congr (snd_orT (fun a e hm => (k1 a e hm).2) k2 h.1).pt fun δ S => ?_⟩⟩
    simp only [denX, M.bind_run]
    cases denOr Φ l δ S <;> rfl
  | .ite c a b, C, X, e, o, t, h => by
    cases e <;> first | cases h | skip
    simp only [chk, Bool.and_eq_true] at h
    obtain ⟨sc, tc⟩ := snd c C X _ o t h.1
    obtain ⟨sa, ta⟩ := snd a C X _ o t h.2.1
    obtain ⟨sb, tb⟩ := snd b C X _ o t h.2.2
    have gv : giv C.own (.ite c a b) = true → giv C.own a = true ∧ giv C.own b = true := fun z => by simpa only [giv, Bool.and_eq_true] using z
    refine ⟨⟨fun bb hb => tE_congr (re_ite tc.t (sa.ev bb fun z => (gv (hb z)).1) (sb.ev bb fun z => (gv (hb z)).2)) fun δ S => ?_, fun z => ?_⟩, ⟨tT_congr (rt_ite tc.t ta.t tb.t) fun δ S => ?_⟩⟩
    · simp only [denX, M.bind_run]
      cases denX Φ c δ S <;> rfl
    · have z' : isN T a = true ∧ isN T b = true := by simpa only [isN, Bool.and_eq_true] using z
      refine tN_congr (rn_ite tc.t (sa.nw z'.1) (sb.nw z'.2)) fun δ S => ?_
      simp only [denX, M.bind_run]
      cases denX Φ c δ S <;> rfl
    · simp only [denX, M.bind_run]
      cases denX Φ c δ S with
      | ok d s =>
        dsimp only
        cases asB d s with
        | ok k s' => cases k <;> rfl
        | _ => rfl
      | _ => rfl
  | .tup l, C, X, e, o, t, h => by
    cases e <;> first | cases h | skip
    simp only [chk, Bool.and_eq_true] at h
    obtain ⟨k1, k2⟩ := sndl l C X _ o t h.1
    have ha := snd_a (fun a e hm => (k1 a e hm).1) k2 h.2.2 false fun _ => h.2.1
    exact both_of (fun b _ => re_tup ha) (fun z => nomatch z) rfl
  | .lst l, C, X, e, o, t, h => by
    cases e <;> first | cases h | skip
    simp only [chk, Bool.and_eq_true] at h
    obtain ⟨k1, k2⟩ := sndl l C X _ o t h.1
    have ha := snd_a (fun a e hm => (k1 a e hm).1) k2 h.2.2 false fun _ => h.2.1
    exact new_of (rn_lst ha) rfl
  | .ix a i, C, X, e, o, t, h => by
    cases e <;> first | cases h | skip
    simp only [chk, Bool.and_eq_true] at h
    obtain ⟨h0, h1, h2⟩ := h
    have sa := (snd a C X _ o t h1).1.ev true fun z => nomatch z
    have si := (snd i C X _ o t h2).1.ev true fun z => nomatch z
    exact both_of (fun b _ => re_ix o.room h0 sa si) (fun z => nomatch z) rfl
  | .cut a lo hi, C, X, e, o, t, h => by
    cases e <;> first | cases h | skip
    rename_i ea sl pos
    cases sl <;> first | cases h | skip
    rename_i elo ehi st pos2
    cases st <;> first | cases h | skip
    simp only [chk, Bool.and_eq_true] at h
    have sa := (snd a C X _ o t h.1).1.ev true fun z => nomatch z
    exact both_of (fun b _ => re_cut sa (sndo lo C X _ o t h.2.1) (sndo hi C X _ o t h.2.2)) (fun z => nomatch z) rfl
  | .cutN a lo hi, C, X, e, o, t, h => by
    cases e <;> first | cases h | skip
    rename_i ea sl pos
    cases sl <;> first | cases h | skip
    rename_i elo ehi st pos2
    cases st <;> first | cases h | skip
    simp only [chk, Bool.and_eq_true] at h
    have sa := (snd a C X _ o t h.1).1.ev true fun z => nomatch z
    exact new_of (rn_cut sa (sndo lo C X _ o t h.2.1) (sndo hi C X _ o t h.2.2)) rfl
  | .comp ex tg kk it ifs ow, C, X, e, o, t, h => by
    cases e <;> first | cases h | skip
    rename_i elt gens scope pos
    rcases gens with _ | ⟨⟨etg, eit, eifs, as⟩, _ | ⟨_, _⟩⟩
    · cases h
    rotate_left
    · rcases as with (_ | n) | n <;> cases h
    rcases as with (_ | n) | n
    rotate_left
    · cases h
    · cases h
    have h : (blkB C scope ow && (chkTg (inBlk C scope) tg etg && (chkI T C [] kk it eit etg && (okShape eit && (chkIf T (inBlk C scope) ifs eifs && (chk T (inBlk C scope) ex elt &&
      (giv C.own ex && (Tg.slots tg).all ow.contains))))))) = true := h
    simp only [Bool.and_eq_true] at h
    obtain ⟨h1, h2, h3, h4, h5, h6, h7, h8⟩ := h
    obtain ⟨own, eo, ok⟩ := blk_of o h1
    subst eo
    have hi := sndi [] kk it C X eit etg o t h3
    have hnd : X.N.Nodup := by rw [o.N]; exact o.nd
    refine new_of (tN_congr (rn_lc o.calm hnd hi ok (fun s H A cll fp => (tg_of (o.blk s H scope cll A fp) tg etg h2).1) (fun s H A cll fp => sndif ifs (inBlk C scope) (X.blk s H scope (compEnvC scope cll A X.env) fp) eifs (o.blk s H scope cll A fp) t h5) (fun s H A cll fp => (snd ex (inBlk C scope) (X.blk s H scope (compEnvC scope cll A X.env) fp) elt (o.blk s H scope cll A fp) t h6).1.ev false fun _ => h7) h4
      fun i hi => List.contains_iff_mem.mp (List.all_eq_true.mp h8 i hi)) fun δ S => ?_) rfl
    have e1 : denX Φ (.comp ex tg kk it ifs (own.map (·.2))) δ S = (do
      let ds ← denXs Φ it δ
      let items ← M.ofO (itemsOf kk ds)
      let l ← compL (compF tg (own.map (·.2)) (denAnd Φ ifs) (denX Φ ex) δ) items
      if items.length < line then pure (.lst l) else M.no : M D) S := rfl
    rw [e1]
    unfold itF
    simp only [M.bind_run]
    cases denXs Φ it δ S <;> rfl
  | .isi a ty, C, X, e, o, t, h => by
    cases e <;> first | cases h | skip
    rename_i fe es kws pos
    cases fe <;> first | cases h | skip
    rcases es with _ | ⟨ea, _ | ⟨eT, _ | ⟨_, _⟩⟩⟩ <;> first | cases h | skip
    cases kws <;> first | cases h | skip
    simp only [chk, Bool.and_eq_true] at h
    obtain ⟨h1, h2, h3, h4, h5, h6, h7⟩ := h
    have sa := (snd a C X _ o t h4).1.ev true fun z => nomatch z
    obtain ⟨g1, g2⟩ := ty_of o t h6
    exact both_of (fun b _ => re_isi (gl_of o h2) (beq_iff_eq.mp h1) (t.bls _ (List.contains_iff_mem.mp h3)) sa g1 h5 g2 (t.kit ty (List.contains_iff_mem.mp h7)) t.clk) (fun z => nomatch z) rfl
  | .dnew, C, X, e, o, t, h => by
    cases e <;> first | cases h | skip
    rename_i ks vs pos
    cases ks <;> cases vs <;> first | cases h | skip
    exact new_of rn_dnew rfl
  | .srt a, C, X, e, o, t, h => by
    cases e <;> first | cases h | skip
    rename_i fe es kws pos
    cases fe <;> first | cases h | skip
    rcases es with _ | ⟨e1, es⟩ <;> first | cases h | skip
    cases kws with
    | cons _ _ => simp [chk] at h
    | nil =>
    cases es with
    | cons _ _ => simp [chk] at h
    | nil =>
    cases e1 <;> first | cases h | (simp [chk] at h; done) | skip
    rename_i fe2 es2 kws2 pos2
    cases fe2 <;> first | cases h | (simp [chk] at h; done) | skip
    rcases es2 with _ | ⟨ea, _ | ⟨_, _⟩⟩ <;> first | cases h | (simp [chk] at h; done) | skip
    cases kws2 <;> first | cases h | (simp [chk] at h; done) | skip
    simp only [chk, Bool.and_eq_true] at h
    obtain ⟨h1, h2, h3, h4, h5, h6, h7, h8⟩ := h
    have sa := (snd a C X _ o t h7).1.ev true fun z => nomatch z
    have e1 := beq_iff_eq.mp h1
    have e2 := beq_iff_eq.mp h4
    subst e1
    subst e2
    exact new_of (rn_srt o.calm (gl_of o h2) (t.bls _ (List.contains_iff_mem.mp h3)) (gl_of o h5) (t.bls _ (List.contains_iff_mem.mp h6)) sa h8) rfl
  | .mkx a, C, X, e, o, t, h => by
    have h' : (chk T C a e && (isN T a && (plainT e && okSw e))) = true := by simpa only [chk] using h
    simp only [Bool.and_eq_true] at h'
    have sa := (snd a C X e o t h'.1).1.nw h'.2.1
    exact both_of (fun b _ => re_mkx sa) (fun z => nomatch z) h'.2.2.1
  | .inG i no a, C, X, e, o, t, h => by
    cases e <;> first | cases h | skip
    rename_i ea ops cs pos
    rcases ops with _ | ⟨op', _ | ⟨_, _⟩⟩ <;> first | cases h | skip
    rcases cs with _ | ⟨eb, _ | ⟨_, _⟩⟩ <;> first | cases h | skip
    all_goals cases eb <;> first | cases h | skip
    simp only [chk, Bool.and_eq_true, decide_eq_true_eq] at h
    obtain ⟨rfl, h1, h2, h3⟩ := h
    cases eg : T.tbs.lookup i with
    | none => rw [eg] at h1; exact absurd h1 Bool.false_ne_true
    | some r =>
    obtain ⟨y, l⟩ := r
    rw [eg] at h1
    have ey := beq_iff_eq.mp h1
    subst ey
    obtain ⟨A, g1, g2, ⟨es, n, D⟩, g3⟩ := t.tbs i y l eg
    have sa := (snd a C X ea o t h3).1.ev true fun z => nomatch z
    refine ⟨⟨fun b _ => (re_inG D (gl_of o h2) g1 g2 g3 sa).1, fun z => nomatch z⟩, ⟨(re_inG (b := true) D (gl_of o h2) g1 g2 g3 sa).2⟩⟩
  | .ixG i a, C, X, e, o, t, h => by
    cases e <;> first | cases h | skip
    rename_i ev ea pos
    cases ev <;> first | cases h | skip
    simp only [chk, Bool.and_eq_true] at h
    obtain ⟨h1, h2, h3, h4⟩ := h
    cases eg : T.tbs.lookup i with
    | none => rw [eg] at h1; exact absurd h1 Bool.false_ne_true
    | some r =>
    obtain ⟨y, l⟩ := r
    rw [eg] at h1
    have ey := beq_iff_eq.mp h1
    subst ey
    obtain ⟨A, g1, g2, ⟨es, n, D⟩, g3⟩ := t.tbs i y l eg
    have sa := (snd a C X ea o t h4).1.ev true fun z => nomatch z
    exact both_of (fun b _ => re_ixG D (gl_of o h2) g1 g2 h3 g3 sa) (fun z => nomatch z) rfl
  | .fld c a n, C, X, e, o, t, h => by
    cases e <;> first | cases h | skip
    simp only [chk, Bool.and_eq_true] at h
    obtain ⟨h1, h2, h3, h4⟩ := h
    have e1 := beq_iff_eq.mp h1
    subst e1
    obtain ⟨g1, g2⟩ := t.fds c n (List.contains_iff_mem.mp h2)
    have sa := (snd a C X _ o t h4).1.ev true fun z => nomatch z
    exact both_of (fun b _ => re_fld sa g1 g2 h3) (fun z => nomatch z) rfl
  | .prop c f a, C, X, e, o, t, h => by
    cases e <;> first | cases h | skip
    simp only [chk, Bool.and_eq_true, decide_eq_true_eq] at h
    obtain ⟨h1, h2, h3, h4⟩ := h
    obtain ⟨j, fd, ps, hj, hb, hc, q, g, hp, F⟩ := t.mts _ _ _ _ _ h1
    have sa := (snd a C X _ o t h4).1.ev false fun _ => h3
    exact both_of (fun b _ => re_prop sa hc hp F (o.room.mono hj) o.gd hb h2) (fun z => nomatch z) rfl
  | .mth c m f a as, C, X, e, o, t, h => by
    cases e <;> first | cases h | skip
    rename_i fe es kws pos
    cases fe <;> first | cases h | skip
    cases kws <;> first | cases h | skip
    simp only [chk, Bool.and_eq_true, decide_eq_true_eq] at h
    obtain ⟨h1, h2, h3, h4, h5, h6, h7, h8, h9, h10⟩ := h
    have e1 := beq_iff_eq.mp h1
    subst e1
    obtain ⟨j, fd, ps, hj, hb, hc, g, hm, F⟩ := t.mts _ _ _ _ _ h2
    have so := (snd a C X _ o t h5).1.ev false fun _ => h4
    obtain ⟨k1, k2⟩ := sndl as C X _ o t h6
    have ha := snd_a (fun a e hm => (k1 a e hm).1) k2 h8 false fun _ => h7
    refine both_of (fun b _ => ?_) (fun z => nomatch z) rfl
    cases es with
    | nil =>
      cases as with
      | cons _ _ => simp at k2
      | nil => exact tE_congr (re_mth0 so hc hm F (o.room.mono (by omega)) o.gd hb h3 h10) fun δ S => rfl
    | cons e es =>
      rw [List.all_cons, Bool.and_eq_true] at h8
      exact tE_congr (re_mth so hc hm F (o.room.mono (by omega)) o.gd hb ha h8 (form_of (by rw [List.all_cons, h8.1, h8.2]; rfl) (by omega)) (fun δ S ds S' z => by rw [denXs_len z]) h3 h10) fun δ S => rfl
  | .newV c f as, C, X, e, o, t, h => by
    cases e <;> first | cases h | skip
    rename_i fe es kws pos
    cases fe <;> first | cases h | skip
    cases kws <;> first | cases h | skip
    simp only [chk, Bool.and_eq_true, decide_eq_true_eq] at h
    obtain ⟨h2, h3, h4, h6, h7, h8⟩ := h
    obtain ⟨j, fd, ps, hj, hb, hc, g, hm, F⟩ := t.mts _ _ _ _ _ h2
    obtain ⟨g1, g2⟩ := t.cls c _ (beq_iff_eq.mp h3)
    obtain ⟨k1, k2⟩ := sndl as C X _ o t h6
    have ha := snd_a (fun a e hm => (k1 a e hm).1) k2 h8 false fun _ => h7
    refine both_of (fun b _ => ?_) (fun z => nomatch z) rfl
    cases es with
    | nil =>
      cases as with
      | cons _ _ => simp at k2
      | nil => exact tE_congr (re_newV0 hm F (o.room.mono hj) o.gd (gl_of o h4) g1 hb g2) fun δ S => rfl
    | cons e es =>
      rw [List.all_cons, Bool.and_eq_true] at h8
      exact tE_congr (re_newV hm F (o.room.mono hj) o.gd (gl_of o h4) g1 hb g2 ha h8 (fun δ S ds S' z => by rw [denXs_len z])) fun δ S => rfl
  | .meth m a [], C, X, e, o, t, h => by cases m <;> cases e <;> cases h
  | .meth m a (_ :: _ :: _), C, X, e, o, t, h => by cases m <;> cases e <;> cases h
  | .meth m a [y], C, X, e, o, t, h => by
    cases e <;> first | (cases m <;> cases h; done) | skip
    rename_i fe es kws pos
    cases fe <;> first | (cases m <;> cases h; done) | skip
    rcases es with _ | ⟨ey, _ | ⟨_, _⟩⟩ <;> first | (cases m <;> cases h; done) | skip
    cases kws <;> first | (cases m <;> cases h; done) | skip
    have one : ∀ δ S, (denXs Φ [y] δ S) = (do let x ← denX Φ y δ; pure [x] : M (List D)) S := fun δ S => by
      simp only [denXs, M.bind_run]
      cases denX Φ y δ S <;> rfl
    cases m with
    | index =>
      simp only [chk, Bool.and_eq_true] at h
      obtain ⟨h1, h2, h3, h4, h5, h6⟩ := h
      have e1 := beq_iff_eq.mp h1
      subst e1
      have so := (snd a C X _ o t h3).1.ev true fun z => nomatch z
      obtain ⟨k1, k2⟩ := sndl [y] C X [ey] o t (by simp [chks, h4])
      have ha := snd_a (fun a e hm => (k1 a e hm).1) k2 (by simp [h5]) true fun z => nomatch z
      exact both_of (fun b _ => tE_congr (re_index so ha h5 h2 h6) fun δ S => rfl) (fun z => nomatch z) rfl
    | tindex =>
      simp only [chk, Bool.and_eq_true] at h
      obtain ⟨h1, h2, h3, h4, h5, h6⟩ := h
      have e1 := beq_iff_eq.mp h1
      subst e1
      have so := (snd a C X _ o t h3).1.ev true fun z => nomatch z
      obtain ⟨k1, k2⟩ := sndl [y] C X [ey] o t (by simp [chks, h4])
      have ha := snd_a (fun a e hm => (k1 a e hm).1) k2 (by simp [h5]) true fun z => nomatch z
      exact both_of (fun b _ => tE_congr (re_tindex so ha h5 h2 h6) fun δ S => rfl) (fun z => nomatch z) rfl
    | join =>
      simp only [chk, Bool.and_eq_true] at h
      obtain ⟨h1, h2, h3, h4, h5, h6⟩ := h
      have e1 := beq_iff_eq.mp h1
      subst e1
      have so := (snd a C X _ o t h3).1.ev true fun z => nomatch z
      obtain ⟨k1, k2⟩ := sndl [y] C X [ey] o t (by simp [chks, h4])
      have ha := snd_a (fun a e hm => (k1 a e hm).1) k2 (by simp [h5]) true fun z => nomatch z
      exact both_of (fun b _ => tE_congr (re_join so ha h5 h2 h6) fun δ S => rfl) (fun z => nomatch z) rfl
  | .fstr l, C, X, e, o, t, h => by
    cases e <;> first | cases h | skip
    rename_i es pos
    rcases es with _ | ⟨e1, _ | ⟨e2, es⟩⟩ <;> first | cases h | skip
    have hf := sndf l C X _ o t (show chkF T C l (e1 :: e2 :: es) = true from h)
    refine both_of (fun b _ => tE_congr (re_fstr hf) fun δ S => ?_) (fun z => nomatch z) rfl
    have e0 : ∀ (l : List RF.X) δ S, seqM (l.map fun a => denX Φ a) δ S = denXs Φ l δ S := by
      intro l
      induction l with
      | nil => intro δ S; rfl
      | cons a l ih =>
        intro δ S
        simp only [List.map_cons, seqM, denXs, M.bind_run]
        cases denX Φ a δ S with
        | ok x S1 =>
          dsimp only
          rw [ih]
        | _ => rfl
    have e3 : ∀ ds, fsF Str.empty ds = (match fmtsD ds with
      | some xs => if (joinS xs).length ≤ line then pure (.str (joinS xs)) else M.no
      | none => M.no : M D) := fun ds => by
      unfold fsF
      cases fmtsD ds with
      | none => rfl
      | some xs => simp only [empty_str]
    rw [M.bind_run, e0]
    show _ = (do
      let ds ← denXs Φ l δ
      match fmtsD ds with
      | some xs => if (joinS xs).length ≤ line then pure (.str (joinS xs)) else M.no
      | none => M.no : M D) S
    rw [M.bind_run]
    cases denXs Φ l δ S with
    | ok ds S1 =>
      dsimp only
      rw [e3]
    | _ => rfl
  | .callB _ _, C, X, e, o, t, h => by cases e <;> cases h
theorem sndf : ∀ (l : List RF.X) (C : Cs) (X : Cx) (es : List Expr), XO X.prog X.w X.K X.mg X.base C k X → TO X.prog X.w X.K X.mg X.base k T Φ cl → chkF T C l es = true → PJR cl C.own X es (l.map fun a => denX Φ a)
  | [], C, X, es, o, t, h => by
    cases es <;> first | cases h | skip
    exact .nil
  | a :: l, C, X, es, o, t, h => by
    cases es with
    | nil => cases a <;> first | cases h | skip
             rename_i d
             cases d <;> cases h
    | cons e es =>
      by_cases hc : ∃ s, a = .cst (.str s) ∧ ∃ s' j p, e = .Constant (.str s') j p
      · obtain ⟨s, rfl, s', j, p, rfl⟩ := hc
        have h' : ((s == s') && chkF T C l es) = true := h
        simp only [Bool.and_eq_true] at h'
        have e1 := beq_iff_eq.mp h'.1
        subst e1
        refine .cst (f := denX Φ (.cst (.str s))) (re_cst pe_str fun ω H => .str s) (fun δ S d S' z => ?_) (sndf l C X es o t h'.2)
        cases z
        exact ⟨s, rfl⟩
      · have h' : ∃ ev k p, e = .FormattedValue ev k none p ∧ k = -1 ∧ chk T C a ev = true ∧ chkF T C l es = true := by
          unfold chkF at h
          split at h
          · rename_i q; cases q
          · rename_i q1 q2
            cases q1; cases q2
            exact absurd ⟨_, rfl, _, _, _, rfl⟩ hc
          · rename_i q1 q2
            cases q1; cases q2
            simp only [Bool.and_eq_true, decide_eq_true_eq] at h
            exact ⟨_, _, _, rfl, h⟩
          · cases h
        obtain ⟨ev, k, p, rfl, rfl, h1, h2⟩ := h'
        exact .val ((snd a C X ev o t h1).1.ev true fun z => nomatch z) (sndf l C X es o t h2)
theorem sndk : ∀ (l : List RF.X) (C : Cs) (X : Cx) (es : List Keyword), XO X.prog X.w X.K X.mg X.base C k X → TO X.prog X.w X.K X.mg X.base k T Φ cl → chkKs T C l es = true → (∀ (a : RF.X) (e : Keyword), (a, e) ∈ l.zip es → Snd X.K cl Φ T C.own X a e.value ∧ SndT X.K cl Φ C.own X a e.value) ∧ l.length = es.length
  | [], C, X, es, o, t, h => by
    cases es <;> first | cases h | skip
    exact ⟨fun a e z => (by simp at z), rfl⟩
  | a :: l, C, X, es, o, t, h => by
    cases es <;> first | cases h | skip
    rename_i e es
    obtain ⟨nm, e, kp⟩ := e
    simp only [chkKs, Bool.and_eq_true] at h
    obtain ⟨h1, h2⟩ := sndk l C X es o t h.2
    refine ⟨fun x y z => ?_, by simp [h2]⟩
    rw [List.zip_cons_cons] at z
    rcases List.mem_cons.mp z with z | z
    · cases z
      exact snd a C X e o t h.1
    · exact h1 x y z
theorem sndl : ∀ (l : List RF.X) (C : Cs) (X : Cx) (es : List Expr), XO X.prog X.w X.K X.mg X.base C k X → TO X.prog X.w X.K X.mg X.base k T Φ cl → chks T C l es = true → (∀ (a : RF.X) (e : Expr), (a, e) ∈ l.zip es → Snd X.K cl Φ T C.own X a e ∧ SndT X.K cl Φ C.own X a e) ∧ l.length = es.length
  | [], C, X, es, o, t, h => by
    cases es <;> first | cases h | skip
    exact ⟨fun a e hm => by simp at hm, rfl⟩
  | a :: l, C, X, es, o, t, h => by
    cases es <;> first | cases h | skip
    simp only [chks, Bool.and_eq_true] at h
    have h1 := snd a C X _ o t h.1
    obtain ⟨h2, h3⟩ := sndl l C X _ o t h.2
    refine ⟨fun a' e' hm => ?_, by simp [h3]⟩
    simp only [List.zip_cons_cons, List.mem_cons, Prod.mk.injEq] at hm
    rcases hm with ⟨rfl, rfl⟩ | hm
    · exact h1
    · exact h2 a' e' hm
theorem sndo : ∀ (x : Option RF.X) (C : Cs) (X : Cx) (e : Option Expr), XO X.prog X.w X.K X.mg X.base C k X → TO X.prog X.w X.K X.mg X.base k T Φ cl → chkO T C x e = true → PO X e (tO X.K cl C.own (denO Φ x))
  | none, C, X, e, o, t, h => by
    cases e <;> first | cases h | skip
    exact ro_none
  | some a, C, X, e, o, t, h => by
    cases e <;> first | cases h | skip
    have sa := (snd a C X _ o t (by simpa only [chkO] using h)).1.ev true fun z => nomatch z
    exact ro_some sa
theorem sndif : ∀ (l : List RF.X) (C : Cs) (X : Cx) (es : List Expr), XO X.prog X.w X.K X.mg X.base C k X → TO X.prog X.w X.K X.mg X.base k T Φ cl → chkIf T C l es = true → PTs X es (tT X.K cl C.own (denAnd Φ l))
  | [], C, X, es, o, t, h => by
    cases es <;> first | cases h | skip
    exact ⟨fun pins s σ H Q I ⟨ω, δ, S, sr, q⟩ => pts_nil.run pins s σ H Q I (q ω true H (Go.refl _ _) sr rfl)⟩
  | [a], C, X, es, o, t, h => by
    rcases es with _ | ⟨e, _ | ⟨_, _⟩⟩ <;> first | cases h | skip
    have ta := (snd a C X _ o t (by simpa only [chkIf] using h)).2
    exact pts_one (tT_congr ta.t fun δ S => by
      simp only [denAnd, M.bind_run]
      cases denX Φ a δ S with
      | ok d s =>
        dsimp only
        cases asB d s with
        | ok k s' => cases k <;> rfl
        | _ => rfl
      | _ => rfl)
  | _ :: _ :: _, C, X, es, o, t, h => by
    rcases es with _ | ⟨e, _ | ⟨_, _⟩⟩ <;> cases h
theorem sndi : ∀ (Mu : List Nat) (kk : ItK) (l : List RF.X) (C : Cs) (X : Cx) (e tg : Expr), XO X.prog X.w X.K X.mg X.base C k X → TO X.prog X.w X.K X.mg X.base k T Φ cl → chkI T C Mu kk l e tg = true → PI X tg e (tI X.K cl C.own Mu (itF Φ kk l))
  | Mu, kk, [], C, X, e, tg, o, t, h => by cases kk <;> cases h
  | Mu, kk, [a], C, X, e, tg, o, t, h => by
    have one : ∀ δ S, (denXs Φ [a] δ S) = (do let x ← denX Φ a δ; pure [x] : M (List D)) S := fun δ S => by
      simp only [denXs, M.bind_run]
      cases denX Φ a δ S <;> rfl
    cases kk with
    | seq =>
      simp only [chkI, Bool.and_eq_true] at h
      have sa := snd a C X _ o t h.1
      refine PI.imp (ri_seq (wk_of sa.1 h.2 fun i z => ?_)) fun σ H R ⟨ω, δ, S, s, q⟩ => ⟨ω, δ, S, s, ?_⟩
      · subst z
        have h1 := h.1
        cases e <;> first | cases h1 | skip
        exact ⟨_, _, rfl, var_of o (by simpa only [chk] using h1)⟩
      · unfold itF at q
        simp only [M.bind_run, one] at q ⊢
        cases e1 : denX Φ a δ S with
        | ok d s' => rw [e1] at q; exact q
        | exc _ _ => rw [e1] at q; exact q
        | no => rw [e1] at q; exact q
    | range1 =>
      cases e <;> first | cases h | skip
      rename_i fe es kws pos
      cases fe <;> first | cases h | skip
      rcases es with _ | ⟨ea, _ | ⟨_, _⟩⟩ <;> first | cases h | skip
      cases kws <;> first | cases h | skip
      simp only [chkI, Bool.and_eq_true] at h
      obtain ⟨h1, h2, h3, h4, h5⟩ := h
      have sa := (snd a C X _ o t h4).1.ev true fun z => nomatch z
      exact ri_range1 (beq_iff_eq.mp h1) (gl_of o h2) (t.bls _ (List.contains_iff_mem.mp h3)) (ra_cons sa ra_nil h5) h5
    | range2 => cases e <;> cases h
    | range3 => cases e <;> cases h
    | enum =>
      cases e <;> first | cases h | skip
      rename_i fe es kws pos
      cases fe <;> first | cases h | skip
      rcases es with _ | ⟨ea, _ | ⟨_, _⟩⟩ <;> first | cases h | skip
      cases kws <;> first | cases h | skip
      cases tg <;> first | cases h | skip
      simp only [chkI, Bool.and_eq_true] at h
      obtain ⟨h1, h2, h3, h4, h5, h6⟩ := h
      have sa := snd a C X _ o t h4
      refine PI.imp (ri_enum (beq_iff_eq.mp h1) (gl_of o h2) (t.bls _ (List.contains_iff_mem.mp h3)) (wk_of sa.1 h6 fun i z => ?_) h5) fun σ H R ⟨ω, δ, S, s, q⟩ => ⟨ω, δ, S, s, ?_⟩
      · subst z
        cases ea <;> first | cases h4 | skip
        exact ⟨_, _, rfl, var_of o (by simpa only [chk] using h4)⟩
      · unfold itF at q
        simp only [M.bind_run, one] at q ⊢
        cases e1 : denX Φ a δ S with
        | ok d s' => rw [e1] at q; exact q
        | exc _ _ => rw [e1] at q; exact q
        | no => rw [e1] at q; exact q
  | Mu, kk, [a, b], C, X, e, tg, o, t, h => by
    cases kk with
    | range2 =>
      cases e <;> first | cases h | skip
      rename_i fe es kws pos
      cases fe <;> first | cases h | skip
      rcases es with _ | ⟨ea, _ | ⟨eb, _ | ⟨_, _⟩⟩⟩ <;> first | cases h | skip
      cases kws <;> first | cases h | skip
      simp only [chkI, Bool.and_eq_true] at h
      obtain ⟨h1, h2, h3, h4, h5, h6, h7⟩ := h
      have sa := (snd a C X _ o t h4).1.ev true fun z => nomatch z
      have sb := (snd b C X _ o t h6).1.ev true fun z => nomatch z
      exact ri_range2 (beq_iff_eq.mp h1) (gl_of o h2) (t.bls _ (List.contains_iff_mem.mp h3)) (ra_cons sa (ra_cons sb ra_nil h7) h5) h5 h7
    | _ => cases e <;> cases h
  | Mu, kk, [a, b, c], C, X, e, tg, o, t, h => by
    cases kk with
    | range3 =>
      cases e <;> first | cases h | skip
      rename_i fe es kws pos
      cases fe <;> first | cases h | skip
      rcases es with _ | ⟨ea, _ | ⟨eb, _ | ⟨ec, _ | ⟨_, _⟩⟩⟩⟩ <;> first | cases h | skip
      cases kws <;> first | cases h | skip
      simp only [chkI, Bool.and_eq_true] at h
      obtain ⟨h1, h2, h3, h4, h5, h6, h7, h8, h9⟩ := h
      have sa := (snd a C X _ o t h4).1.ev true fun z => nomatch z
      have sb := (snd b C X _ o t h6).1.ev true fun z => nomatch z
      have sc := (snd c C X _ o t h8).1.ev true fun z => nomatch z
      exact ri_range3 (beq_iff_eq.mp h1) (gl_of o h2) (t.bls _ (List.contains_iff_mem.mp h3)) (ra_cons sa (ra_cons sb (ra_cons sc ra_nil h9) h7) h5) h5 h7 h9
    | _ => cases e <;> cases h
  | Mu, kk, _ :: _ :: _ :: _ :: _, C, X, e, tg, o, t, h => by cases kk <;> cases e <;> cases h
end
end
end RF
end
section
set_option linter.all false
set_option maxRecDepth 100000
set_option maxHeartbeats 4000000
set_option autoImplicit false
/-! RfChk4: statements. -/
namespace RF
open PySem PySem.Spec L2
open PyProof.Rows hiding St
def plnB (sc : Scope) : Expr → Bool
  | .Name x _ => plocB sc x
  | _ => false
def noSw (sc : Scope) : Expr → Expr → Bool
  | .Tuple ts _ _, .Tuple vs _ _ => !(ts.length == 2 || ts.length == 3) || (vs.all (foldedForSure 8) || ts.any fun t => !plnB sc t)
  | .List .., _ => false
  | _, _ => true
def parB (lf : Str → Bool) (C : Cs) (T : Tb) : List Nat → List Expr → List RF.X → Bool
  | [], [], [] => true
  | i :: is, .Name x _ :: es, e :: xs => (C.N[i]? == some x) && (lf x && ((if C.own.contains i then isN T e else giv C.own e) && parB lf C T is es xs))
  | _, _, _ => false
def linesB (l : Nat) : List Expr → Bool
  | [] => true
  | e :: es => (e.pos.line == l) && linesB l es
def nmB (C : Cs) (i : Nat) (x : Str) : Bool := (C.N[i]? == some x) && locB C.sc x
/-- what is walked is not changed in the turns -/
def lessM (Mu : List Nat) : List RF.X → List Nat
  | [.var i] => Mu.filter fun j => decide (j ≠ i)
  | _ => Mu
theorem lessM_sub {Mu : List Nat} : ∀ (it : List RF.X), ∀ i ∈ lessM Mu it, i ∈ Mu := fun it i h => by
  unfold lessM at h
  split at h
  · exact (List.mem_filter.mp h).1
  · exact h
mutual
def chkS (T : Tb) (C : Cs) (nw : Bool) (Mu : List Nat) : S → Stmt → Bool
  | .asg (.nm i) e, .Assign [.Name x _] ex _ => nmB C i x && (chk T C e ex && (if C.own.contains i then isN T e else giv C.own e))
  | .asg (.tup ts) e, .Assign [tg] ex _ => chkTg C (.tup ts) tg && (chk T C e ex && (giv C.own e && (okSw ex && noSw C.sc tg ex)))
  | .asgI i e, .Assign [.Name x _] ex _ => nmB C i x && (chk T C e ex && (C.own.contains i && (giv C.own e && okSw ex)))
  | .mov j i, .Assign [.Name y _] (.Name x px) _ => nmB C j y && (varB C i x && (C.own.contains i && (!C.own.contains j && okSw (.Name x px))))
  | .mk i e, .Assign [.Name x _] ex _ => nmB C i x && (chk T C e ex && (!C.own.contains i && isN T e))
  | .par is xs, .Assign [.Tuple ts k1 pt] (.Tuple es k2 p2) _ => ((is.length == 2 || is.length == 3) && (decide is.Nodup && (parB (plocB C.sc) C T is ts xs && (linesB ((ts.head?.map (·.pos.line)).getD 0) ts && (chks T C xs es && (es.all okShape && (!es.all (foldedForSure 8) && !es.all (constantsAlone 8))))))))
    || (decide (is.length ≤ 1000) && (parB (locB C.sc) C T is ts xs && (chks T C xs es && (es.all okShape && noSw C.sc (.Tuple ts k1 pt) (.Tuple es k2 p2)))))
  | .setIx i k e, .Assign [.Subscript (.Name x _) ek _] ex _ => varB C i x && (C.own.contains i && (Mu.contains i && (giv C.own e && (chk T C e ex && (chk T C k ek && (okSw ex && okShape ek))))))
  | .setOb i k e, .Assign [.Subscript (.Name x _) ek _] ex _ => varB C i x && (giv C.own e && (chk T C e ex && (chk T C k ek && (okSw ex && okShape ek))))
  | .setF i c f e, .Assign [.Attribute (.Name x _) f' _] ex _ => (f == f') && (varB C i x && (T.fds.contains (c, f) && (giv C.own e && (chk T C e ex && okSw ex))))
  | .obT i k j e, .Assign [.Tuple [.Subscript (.Name x px) ek p, .Name y py] kt pt] ex _ => varB C i x && (nmB C j y && (!C.own.contains j && (giv C.own e && (chk T C e ex && (chk T C k ek && (okSw ex && (okShape ek && noSw C.sc (.Tuple [.Subscript (.Name x px) ek p, .Name y py] kt pt) ex)))))))
  | .app i e, .Expr (.Call (.Attribute (.Name x _) m apos) [ex] [] p) _ => (m == ("append" : Str)) && (varB C i x && (C.own.contains i && (Mu.contains i && (giv C.own e && (chk T C e ex && (okShape ex && (apos.endLine == p.line)))))))
  | .ex e, .Expr ex _ => chk T C e ex && okSw ex
  | .iff c a b, .If ec ea eb _ => chk T C c ec && (chkSs T C nw Mu a ea && chkSs T C nw Mu b eb)
  | .forr t k it body, .For etg eit eb [] _ => chkTg C t etg && (chkI T C (lessM Mu it) k it eit etg && (okShape eit && chkSs T C nw (lessM Mu it) body eb))
  | .whl c body, .While ec eb [] _ => chk T C c ec && chkSs T C nw Mu body eb
  | .ret none, .Return none _ => !nw
  | .ret (some e), .Return (some ex) _ => chk T { C with own := [] } e ex && (if nw then isN T e else giv [] e)
  | .retO i, .Return (some (.Name x _)) _ => nw && (varB C i x && C.own.contains i)
  | .never, _ => true
  | .pass, .Pass _ => true
  | .pass, .Expr (.Constant (.str _) _ _) _ => true
  | .brk, .Break _ => true
  | _, _ => false
def chkSs (T : Tb) (C : Cs) (nw : Bool) (Mu : List Nat) : List S → List Stmt → Bool
  | [], [] => true
  | s :: l, e :: es => chkS T C nw Mu s e && chkSs T C nw Mu l es
  | _, _ => false
end
structure XS (P : Program) (w : World) (K : PySem.W.Frag) (mg : Str → Option Value) (base : Heap) (C : Cs) (k : Nat) (X : Cx) : Prop extends XO P w K mg base C k X where
  kind : X.env.scope.kind = .function
  pass : PassesOwn (model X.prog X.w) X.A X.env X.xe
  fnT : ∀ x, X.fn x = true
section
variable {k : Nat} {T : Tb} {Φ : Fns} {cl : Nat → Addr} {nw : Bool} {Mu : List Nat} {Nf : Nat}
theorem tS_congr {K : PySem.W.Frag} {own : List Nat} {X : Cx} {s : Stmt} {f g : En → M Fl} (h : PS X s (tS K cl own nw Mu f)) (k : ∀ δ S, f δ S = g δ S) : PS X s (tS K cl own nw Mu g) :=
  h.imp fun D σ H ⟨ω, δ, S, sr, q⟩ => ⟨ω, δ, S, sr, by rw [k]; exact q⟩
theorem tSs_congr {K : PySem.W.Frag} {own : List Nat} {X : Cx} {s : List Stmt} {f g : En → M Fl} (h : PSs X s (tS K cl own nw Mu f)) (k : ∀ δ S, f δ S = g δ S) : PSs X s (tS K cl own nw Mu g) :=
  h.imp fun D σ H ⟨ω, δ, S, sr, q⟩ => ⟨ω, δ, S, sr, by rw [k]; exact q⟩
theorem nm_of {X : Cx} {C : Cs} (o : XS X.prog X.w X.K X.mg X.base C k X) {i : Nat} {x : Str} (h : nmB C i x = true) : NmOk X i x := by
  unfold nmB at h
  rw [Bool.and_eq_true] at h
  exact ⟨by rw [o.N]; exact o.nd, by rw [o.N]; exact beq_iff_eq.mp h.1, loc_of o.toXO h.2, .inl (o.fnT x)⟩
theorem fm_len {α β : Type} (f : α → Option β) : ∀ l : List α, (l.any fun a => (f a).isNone) = true → (l.filterMap f).length ≠ l.length
  | [], h => by cases h
  | a :: l, h => by
    have hle : (l.filterMap f).length ≤ l.length := List.length_filterMap_le f l
    rw [List.any_cons, Bool.or_eq_true] at h
    cases e : f a with
    | none =>
      rw [List.filterMap_cons, e]
      simp only [List.length_cons]
      omega
    | some b =>
      rw [e] at h
      have := fm_len f l (h.resolve_left (by simp))
      rw [List.filterMap_cons, e]
      simp only [List.length_cons, ne_eq, Nat.add_right_cancel_iff]
      exact this
theorem noSw_of {tg e : Expr} {env : Env} (h : noSw env.scope tg e = true) : swappedStores [tg] e env = pure none := by
  cases tg <;> first | rfl | cases h | skip
  cases e <;> first | rfl | skip
  rename_i ts k1 p1 vs k2 p2
  simp only [noSw, Bool.or_eq_true, Bool.not_eq_true'] at h
  unfold swappedStores
  simp only
  rcases h with h | h | h
  · rw [h]; rfl
  · simp only [h, if_true]
    split
    · rfl
    · split
      · rfl
      · split <;> rfl
  · split
    · rfl
    · split
      · rfl
      · have hne : ∀ l : Nat, ((ts.filterMap fun
          | .Name id pos => if (env.kindOf id == some .local && pos.line == l) = true then some id else none
          | _ => none).length != ts.length) = true := fun l => by
          rw [bne_iff_ne]
          refine fm_len _ ts ?_
          rw [List.any_eq_true] at h ⊢
          obtain ⟨t, ht, z⟩ := h
          refine ⟨t, ht, ?_⟩
          cases t <;> first | rfl | skip
          rename_i x px
          have z' : plocB env.scope x = false := by simpa [plnB] using z
          have hk : (env.kindOf x == some .local) = false := by
            unfold plocB at z'
            show (env.scope.names.lookup x == some .local) = false
            split at z'
            · cases z'
            · rename_i hn
              cases e : env.scope.names.lookup x with
              | none => rfl
              | some k => cases k <;> first | rfl | exact absurd e hn
          simp [hk]
        split
        · rfl
        · rename_i hc
          exact absurd (Bool.or_eq_true_iff.mpr (.inl (hne _))) hc
theorem sub_asg {x : Str} {py p : Pos} {ek : Expr} {env : Env} (h : okShape ek = true) : ∀ v, assign (.Subscript (.Name x py) ek p) env v = (do
      let ov ← holding [v] (eval (.Name x py) env)
      let iv ← holding [v, ov] (eval ek env)
      standAt p
      holding [v, ov, iv] (setItem ov iv v)
      release [v, ov, iv] []) := by
  intro v
  cases ek <;> first | rfl | cases h
/-- name = something new, whether it is a comprehension or not -/
theorem set_new {X : Cx} {C : Cs} (o : XS X.prog X.w X.K X.mg X.base C k X) (t : TO X.prog X.w X.K X.mg X.base k T Φ cl) {i : Nat} {x : Str} {p pos : Pos} {e : RF.X} {ex : Expr} (N : NmOk X i x) (hc : chk T C e ex = true) (hn : isN T e = true) {h : (En → M D) → En → M Fl}
    (hcg : ∀ {f g : En → M D}, (∀ δ S, f δ S = g δ S) → ∀ δ S, h f δ S = h g δ S)
    (hq : ∀ {f : En → M D} {ω : Wd} {H : Hp} {σ : L2.St} {δ : En} {S : Sto} {Dn : Ends}, SR X.K cl C.own ω σ H δ S → sG X.K cl C.own nw Mu ω H Dn (h f δ S) → nG X.K cl C.own ω H σ δ (fun v H' => Dn.nx (σ.set i (some v)) H') (f δ S)) :
    PS X (.Assign [.Name x p] ex pos) (tS X.K cl C.own nw Mu (h (denX Φ e))) := by
  have sn := (snd e C X ex o.toXO t hc).1.nw hn
  by_cases hsw : swapsWith ex (some (.Name x p)) pos.line X.env = pure false
  · exact rs_setE N sn hsw hq
  · cases ex with
    | ListComp elt gens scope lpos =>
      cases e <;> first | cases hc | (cases hn; done) | skip
      case comp ee tg kk it ifs ow =>
      rcases gens with _ | ⟨⟨etg, eit, eifs, as⟩, _ | ⟨_, _⟩⟩
      · cases hc
      rotate_left
      · rcases as with (_ | n) | n <;> cases hc
      rcases as with (_ | n) | n
      rotate_left
      · cases hc
      · cases hc
      have hc' : (blkB C scope ow && (chkTg (inBlk C scope) tg etg && (chkI T C [] kk it eit etg && (okShape eit && (chkIf T (inBlk C scope) ifs eifs && (chk T (inBlk C scope) ee elt &&
        (giv C.own ee && (Tg.slots tg).all ow.contains))))))) = true := hc
      simp only [Bool.and_eq_true] at hc'
      obtain ⟨h1, h2, h3, h4, h5, h6, h7, h8⟩ := hc'
      obtain ⟨own, eo, ok⟩ := blk_of o.toXO h1
      subst eo
      have hnd : X.N.Nodup := by rw [o.N]; exact o.nd
      have L : LcOk X.K cl C.own X elt etg eit eifs scope own tg (itF Φ kk it) (denAnd Φ ifs) (denX Φ ee) :=
        ⟨o.calm, hnd, sndi [] kk it C X eit etg o.toXO t h3, ok, fun s H A cll fp => (tg_of (o.toXO.blk s H scope cll A fp) tg etg h2).1, fun s H A cll fp => sndif ifs (inBlk C scope) (X.blk s H scope (compEnvC scope cll A X.env) fp) eifs (o.toXO.blk s H scope cll A fp) t h5,
          fun s H A cll fp => (snd ee (inBlk C scope) (X.blk s H scope (compEnvC scope cll A X.env) fp) elt (o.toXO.blk s H scope cll A fp) t h6).1.ev false fun _ => h7, h4, fun i hi => List.contains_iff_mem.mp (List.all_eq_true.mp h8 i hi)⟩
      have hl : X.env.scope.names.lookup x = some .local := Classical.byContradiction fun z => hsw (sw_lc2 z o.kind)
      have hs : lcSw x p lpos scope = true := by
        cases z : lcSw x p lpos scope with
        | true => rfl
        | false => exact absurd (sw_lc z o.kind hl) hsw
      refine tS_congr (rs_setLc L N.ix o.kind hl hs (h := h) hq) fun δ S => hcg (fun δ S => ?_) δ S
      have e1 : denX Φ (.comp ee tg kk it ifs (own.map (·.2))) δ S = (do
        let ds ← denXs Φ it δ
        let items ← M.ofO (itemsOf kk ds)
        let l ← compL (compF tg (own.map (·.2)) (denAnd Φ ifs) (denX Φ ee) δ) items
        if items.length < line then pure (.lst l) else M.no : M D) S := rfl
      rw [e1]
      unfold lcF itF
      simp only [M.bind_run]
      cases denXs Φ it δ S <;> rfl
    | SetComp _ _ _ _ => cases e <;> first | cases hc | (cases hn; done)
    | DictComp _ _ _ _ _ => cases e <;> first | cases hc | (cases hn; done)
    | _ => exact absurd rfl hsw
theorem par_of {X : Cx} {C : Cs} {lf : Str → Bool} (o : XS X.prog X.w X.K X.mg X.base C k X) (t : TO X.prog X.w X.K X.mg X.base k T Φ cl) : ∀ {is : List Nat} {ts : List Expr} {xs : List RF.X} {es : List Expr}, parB lf C T is ts xs = true → chks T C xs es = true → es.all okShape = true →
    PA X es (tN X.K cl C.own (is.map fun i => decide (i ∈ C.own)) (denXs Φ xs))
  | [], ts, xs, es, h, hc, hs => by
    cases ts <;> cases xs <;> first | cases h | skip
    cases es <;> first | cases hc | skip
    exact na_nil
  | i :: is, ts, xs, es, h, hc, hs => by
    cases ts with
    | nil => cases h
    | cons te ts =>
      cases te <;> first | cases h | skip
      cases xs with
      | nil => cases h
      | cons a xs =>
        cases es with
        | nil => cases hc
        | cons e es =>
          rename_i x px
          simp only [parB, Bool.and_eq_true] at h
          simp only [chks, Bool.and_eq_true] at hc
          rw [List.all_cons, Bool.and_eq_true] at hs
          obtain ⟨h1, h2, h3, h4⟩ := h
          have sa := (snd a C X e o.toXO t hc.1).1
          have hr := par_of o t h4 hc.2 hs.2
          rw [List.map_cons]
          by_cases hi : i ∈ C.own
          · rw [List.contains_iff_mem.mpr hi] at h3
            rw [decide_eq_true hi]
            exact na_own (sa.nw h3) hr hs.1
          · have hi' : C.own.contains i = false := by
              cases z : C.own.contains i with
              | false => rfl
              | true => exact absurd (List.contains_iff_mem.mp z) hi
            rw [hi'] at h3
            rw [decide_eq_false hi]
            exact na_giv (sa.ev false fun _ => h3) hr hs.1
theorem nms_of {X : Cx} {C : Cs} (o : XS X.prog X.w X.K X.mg X.base C k X) : ∀ {is : List Nat} {ts : List Expr} {xs : List RF.X}, parB (locB C.sc) C T is ts xs = true → NmsOk X is ts
  | [], ts, xs, h => by
    cases ts <;> cases xs <;> first | exact trivial | cases h
  | i :: is, ts, xs, h => by
    cases ts with
    | nil => cases h
    | cons te ts =>
      cases te <;> first | cases h | skip
      cases xs with
      | nil => cases h
      | cons a xs =>
        simp only [parB, Bool.and_eq_true] at h
        refine ⟨nm_of o ?_, nms_of o h.2.2.2⟩
        unfold nmB
        rw [Bool.and_eq_true]
        exact ⟨h.1, h.2.1⟩
theorem contains_not {l : List Nat} {i : Nat} (h : (!l.contains i) = true) : i ∉ l := fun z => by
  rw [List.contains_iff_mem.mpr z] at h
  cases h
mutual
theorem sndS : ∀ (Mu : List Nat) (s : S) (C : Cs) (X : Cx) (e : Stmt), XS X.prog X.w X.K X.mg X.base C k X → TO X.prog X.w X.K X.mg X.base k T Φ cl → chkS T C nw Mu s e = true → PS X e (tS X.K cl C.own nw Mu (denS Φ Nf s))
  | Mu, .asg (.nm i) e, C, X, st, o, t, h => by
    cases st <;> first | cases h | skip
    rename_i tgs ex pos
    rcases tgs with _ | ⟨tg, _ | ⟨_, _⟩⟩
    · cases h
    · cases tg <;> first | cases h | skip
      rename_i x p
      simp only [chkS, Bool.and_eq_true] at h
      obtain ⟨h1, h2, h3⟩ := h
      have N := nm_of o h1
      have fin : ∀ δ S, (do
        let d ← denX Φ e δ
        pure (.nx (← M.ofO (bindT (.nm i) d δ))) : M Fl) S = denS Φ Nf (.asg (.nm i) e) δ S := fun δ S => rfl
      have hcg : ∀ {f g : En → M D}, (∀ δ S, f δ S = g δ S) → ∀ δ S, ((do
        let d ← f δ
        pure (.nx (← M.ofO (bindT (.nm i) d δ))) : M Fl) S) = (do
        let d ← g δ
        pure (.nx (← M.ofO (bindT (.nm i) d δ))) : M Fl) S := fun z δ S => by simp only [M.bind_run, z]
      by_cases hi : i ∈ C.own
      · rw [List.contains_iff_mem.mpr hi] at h3
        exact tS_congr (set_new o t N h2 h3 (h := fun f δ => do
          let d ← f δ
          pure (.nx (← M.ofO (bindT (.nm i) d δ)))) hcg fun s q => own_ok hi s q) fin
      · have hi' : C.own.contains i = false := by
          cases z : C.own.contains i with
          | false => rfl
          | true => exact absurd (List.contains_iff_mem.mp z) hi
        rw [hi'] at h3
        by_cases hsw : okSw ex = true
        · exact tS_congr (rs_asg ((snd e C X ex o.toXO t h2).1.ev false fun _ => h3) (rg_name N.nd N.ix N.loc N.fn hi) hsw rfl rfl) fin
        · cases ex <;> first | exact absurd rfl hsw | skip
          · cases e <;> first | cases h2 | skip
            case mkx => exact absurd h2 (by simp [chk, okSw])
            case meth m a as => cases m <;> rcases as with _ | ⟨_, _ | ⟨_, _⟩⟩ <;> cases h2
            exact tS_congr (set_new o t N h2 rfl (h := fun f δ => do
              let d ← f δ
              pure (.nx (← M.ofO (bindT (.nm i) d δ)))) hcg fun s q => giv_ok hi s q) fin
          · cases e <;> first | cases h2 | exact absurd h2 (by simp [chk, okSw]) | (rename_i m a as; cases m <;> rcases as with _ | ⟨_, _ | ⟨_, _⟩⟩ <;> cases h2)
          · cases e <;> first | cases h2 | exact absurd h2 (by simp [chk, okSw]) | (rename_i m a as; cases m <;> rcases as with _ | ⟨_, _ | ⟨_, _⟩⟩ <;> cases h2)
    · cases tg <;> cases h
  | Mu, .asg (.tup ts) e, C, X, st, o, t, h => by
    cases st <;> first | cases h | skip
    rename_i tgs ex pos
    rcases tgs with _ | ⟨tg, _ | ⟨_, _⟩⟩ <;> first | cases h | skip
    simp only [chkS, Bool.and_eq_true] at h
    obtain ⟨h1, h2, h3, h4, h5⟩ := h
    obtain ⟨g1, g2⟩ := tg_of (cl := cl) o.toXO _ _ h1
    exact rs_asg ((snd e C X ex o.toXO t h2).1.ev false fun _ => h3) g1 h4 (noSw_of (by rw [o.sc]; exact h5)) g2
  | Mu, .mov j i, C, X, st, o, t, h => by
    cases st <;> first | cases h | skip
    rename_i tgs ex pos
    rcases tgs with _ | ⟨tg, _ | ⟨_, _⟩⟩
    · cases h
    · cases tg <;> first | cases h | skip
      cases ex <;> first | cases h | skip
      rename_i y p x px
      simp only [chkS, Bool.and_eq_true, Bool.not_eq_true'] at h
      obtain ⟨h1, h2, h3, h4, h5⟩ := h
      have N := nm_of o h1
      have V := var_of o.toXO h2
      refine tS_congr (rs_mov N (fun z => by rw [List.contains_iff_mem.mpr z] at h4; cases h4) (List.contains_iff_mem.mp h3) V.ix V.vis V.dbg V.cd h5) fun δ S => ?_
      have e1 : denS Φ Nf (.mov j i) δ S = (do
        let d ← getV δ i
        if d.imm then M.no else pure (.nx (← M.ofO (bindT (.nm j) d (δ.set i none)))) : M Fl) S := rfl
      rw [e1]
    · cases tg <;> cases ex <;> cases h
  | Mu, .asgI i e, C, X, st, o, t, h => by
    cases st <;> first | cases h | skip
    rename_i tgs ex pos
    rcases tgs with _ | ⟨tg, _ | ⟨_, _⟩⟩
    · cases h
    · cases tg <;> first | cases h | skip
      simp only [chkS, Bool.and_eq_true] at h
      obtain ⟨h1, h2, h3, h4, h5⟩ := h
      exact rs_asgI (nm_of o h1) (List.contains_iff_mem.mp h3) ((snd e C X ex o.toXO t h2).1.ev false fun _ => h4) h5
    · cases tg <;> cases h
  | Mu, .mk i e, C, X, st, o, t, h => by
    cases st <;> first | cases h | skip
    rename_i tgs ex pos
    rcases tgs with _ | ⟨tg, _ | ⟨_, _⟩⟩
    · cases h
    · cases tg <;> first | cases h | skip
      simp only [chkS, Bool.and_eq_true] at h
      obtain ⟨h1, h2, h3, h4⟩ := h
      exact tS_congr (set_new o t (nm_of o h1) h2 h4 (h := fun f δ => do
        let d ← f δ
        fun s => match bindT (.nm i) (.obj s.length) δ with
          | some δ' => .ok (.nx δ') (s ++ [d])
          | none => .no) (fun z δ S => by simp only [M.bind_run, z]) fun s q => sto_ok (contains_not h3) s q) fun δ S => rfl
    · cases tg <;> cases h
  | Mu, .par is xs, C, X, st, o, t, h => by
    cases st <;> first | cases h | skip
    rename_i tgs ex pos
    rcases tgs with _ | ⟨tg, _ | ⟨_, _⟩⟩
    · cases h
    · cases tg <;> first | cases h | skip
      cases ex <;> first | cases h | skip
      rename_i ts k1 pt es k2 p2
      simp only [chkS, Bool.and_eq_true, Bool.or_eq_true, decide_eq_true_eq, Bool.not_eq_true'] at h
      rcases h with h | ⟨h1, h2, h3, h4, h5⟩
      rotate_left
      · have hp := par_of o t h2 h3 h4
        exact tS_congr (rs_parT o.calm (nms_of o h2) (noSw_of (by rw [o.sc]; exact h5)) h1 hp) fun δ S => rfl
      obtain ⟨h1, h2, h3, h4, h5, h6, h7, h8⟩ := h
      have hp := par_of o t h3 h5 h6
      have hnd : X.N.Nodup := by rw [o.N]; exact o.nd
      have one : ∀ {i : Nat} {is : List Nat} {ts : List Expr} {xs : List RF.X}, parB (plocB C.sc) C T (i :: is) ts xs = true → ∃ x px ts' a xs', ts = .Name x px :: ts' ∧ xs = a :: xs' ∧ X.N[i]? = some x ∧ X.env.scope.names.lookup x = some .local ∧ parB (plocB C.sc) C T is ts' xs' = true := fun {i is ts xs} z => by
        cases ts with
        | nil => cases z
        | cons te ts =>
          cases te <;> first | cases z | skip
          cases xs with
          | nil => cases z
          | cons a xs =>
            simp only [parB, Bool.and_eq_true] at z
            exact ⟨_, _, _, _, _, rfl, rfl, by rw [o.N]; exact beq_iff_eq.mp z.1, ploc_of o.toXO z.2.1, z.2.2.2⟩
      have nil : ∀ {ts : List Expr} {xs : List RF.X}, parB (plocB C.sc) C T [] ts xs = true → ts = [] ∧ xs = [] := fun {ts xs} z => by
        cases ts <;> cases xs <;> first | exact ⟨rfl, rfl⟩ | cases z
      have two : ∀ {l : List RF.X} {es : List Expr}, chks T C l es = true → l.length = es.length := fun {l es} z => (sndl l C X es o.toXO t z).2
      match is, h1 with
      | [i, j], _ =>
        obtain ⟨x, px, ts1, a, xs1, rfl, rfl, gx, lx, z1⟩ := one h3
        obtain ⟨y, py, ts2, b, xs2, rfl, rfl, gy, ly, z2⟩ := one z1
        obtain ⟨rfl, rfl⟩ := nil z2
        have hl := two h5
        match es, hl with
        | [ea, eb], _ =>
          have hij : i ≠ j := by simpa using h2
          simp only [linesB, Bool.and_eq_true] at h4
          exact tS_congr (rs_par2 o.calm hnd gx gy hij o.kind lx ly h4.2.1 h6 h7 h8 hp) fun δ S => rfl
      | [i, j, l], _ =>
        obtain ⟨x, px, ts1, a, xs1, rfl, rfl, gx, lx, z1⟩ := one h3
        obtain ⟨y, py, ts2, b, xs2, rfl, rfl, gy, ly, z2⟩ := one z1
        obtain ⟨z, pz, ts3, c, xs3, rfl, rfl, gz, lz, z3⟩ := one z2
        obtain ⟨rfl, rfl⟩ := nil z3
        have hl := two h5
        match es, hl with
        | [ea, eb, ec], _ =>
          have hij : (i ≠ j ∧ i ≠ l) ∧ j ≠ l := by simpa using h2
          simp only [linesB, Bool.and_eq_true] at h4
          exact tS_congr (rs_par3 o.calm hnd gx gy gz hij.1.1 hij.1.2 hij.2 o.kind lx ly lz h4.2.1 h4.2.2.1 h6 h7 h8 hp) fun δ S => rfl
      | [], h1 => exact absurd h1 (by simp)
      | [_], h1 => exact absurd h1 (by simp)
      | _ :: _ :: _ :: _ :: _, h1 => exact absurd h1 (by simp)
    · cases tg <;> cases h
  | Mu, .setIx i kx e, C, X, st, o, t, h => by
    cases st <;> first | cases h | skip
    rename_i tgs ex pos
    rcases tgs with _ | ⟨tg, _ | ⟨_, _⟩⟩
    · cases h
    · cases tg <;> first | cases h | skip
      rename_i eo ek p
      cases eo <;> first | cases h | skip
      simp only [chkS, Bool.and_eq_true] at h
      obtain ⟨h1, h2, h3, h4, h5, h6, h7, h8⟩ := h
      have V := var_of o.toXO h1
      exact rs_setIx V.ix V.vis V.dbg V.cd (List.contains_iff_mem.mp h2) (List.contains_iff_mem.mp h3) (hu_cmp o.room) ((snd e C X ex o.toXO t h5).1.ev false fun _ => h4) ((snd kx C X ek o.toXO t h6).1.ev true fun z => nomatch z) h7 (sub_asg h8)
    · cases tg <;> first | cases h | skip
      rename_i eo ek p
      cases eo <;> cases h
  | Mu, .setOb i kx e, C, X, st, o, t, h => by
    cases st <;> first | cases h | skip
    rename_i tgs ex pos
    rcases tgs with _ | ⟨tg, _ | ⟨_, _⟩⟩
    · cases h
    · cases tg <;> first | cases h | skip
      rename_i eo ek p
      cases eo <;> first | cases h | skip
      simp only [chkS, Bool.and_eq_true] at h
      obtain ⟨h1, h4, h5, h6, h7, h8⟩ := h
      have V := var_of o.toXO h1
      exact rs_setOb V.ix V.vis V.dbg V.cd (hu_cmp o.room) ((snd e C X ex o.toXO t h5).1.ev false fun _ => h4) ((snd kx C X ek o.toXO t h6).1.ev true fun z => nomatch z) h7 (sub_asg h8)
    · cases tg <;> first | cases h | skip
      rename_i eo ek p
      cases eo <;> cases h
  | Mu, .setF i c f e, C, X, st, o, t, h => by
    cases st <;> first | cases h | skip
    rename_i tgs ex pos
    rcases tgs with _ | ⟨tg, _ | ⟨_, _⟩⟩
    · cases h
    · cases tg <;> first | cases h | skip
      rename_i eo f' p
      cases eo <;> first | cases h | skip
      simp only [chkS, Bool.and_eq_true] at h
      obtain ⟨h0, h1, h2, h4, h5, h7⟩ := h
      have e0 := beq_iff_eq.mp h0
      subst e0
      have V := var_of o.toXO h1
      obtain ⟨g1, g2⟩ := t.fds c f (List.contains_iff_mem.mp h2)
      exact rs_setF V.ix V.vis V.dbg V.cd g1 g2 ((snd e C X ex o.toXO t h5).1.ev false fun _ => h4) h7
    · cases tg <;> first | cases h | skip
      rename_i eo f' p
      cases eo <;> cases h
  | Mu, .obT i kx j e, C, X, st, o, t, h => by
    cases st <;> first | cases h | skip
    rename_i tgs ex pos
    rcases tgs with _ | ⟨tg, _ | ⟨_, _⟩⟩
    · cases h
    · cases tg <;> first | cases h | skip
      rename_i ts kt pt
      rcases ts with _ | ⟨t1, _ | ⟨t2, _ | ⟨_, _⟩⟩⟩
      · cases h
      · cases t1 <;> first | cases h | skip
        rename_i eo ek p
        cases eo <;> cases h
      · cases t1 <;> first | cases h | skip
        rename_i eo ek p
        cases eo <;> first | cases h | skip
        cases t2 <;> first | cases h | skip
        simp only [chkS, Bool.and_eq_true] at h
        obtain ⟨h1, h2, h3, h4, h5, h6, h7, h8, h9⟩ := h
        have V := var_of o.toXO h1
        have N := nm_of o h2
        refine tS_congr (rs_obT V.ix V.vis V.dbg V.cd (hu_cmp o.room) o.calm N.nd N.ix N.loc N.fn (contains_not h3) ((snd e C X ex o.toXO t h5).1.ev false fun _ => h4) ((snd kx C X ek o.toXO t h6).1.ev true fun z => nomatch z) h7 (noSw_of (by rw [o.sc]; exact h9)) (sub_asg h8)) fun δ S => rfl
      · cases t1 <;> first | cases h | skip
        rename_i eo ek p
        cases eo <;> first | cases h | skip
        cases t2 <;> cases h
    · cases tg <;> first | cases h | skip
      rename_i ts kt pt
      rcases ts with _ | ⟨t1, _ | ⟨t2, _ | ⟨_, _⟩⟩⟩ <;> first | cases h | skip
      all_goals cases t1 <;> first | cases h | skip
      all_goals (rename_i eo ek p; cases eo <;> first | cases h | skip)
      all_goals cases t2 <;> cases h
  | Mu, .app i e, C, X, st, o, t, h => by
    cases st <;> first | cases h | skip
    rename_i ec pos
    cases ec <;> first | cases h | skip
    rename_i fe es kws p
    cases fe <;> first | cases h | skip
    rename_i eo m apos
    cases eo <;> first | cases h | skip
    rcases es with _ | ⟨ex, _ | ⟨_, _⟩⟩ <;> first | cases h | skip
    cases kws <;> first | cases h | skip
    simp only [chkS, Bool.and_eq_true] at h
    obtain ⟨h0, h1, h2, h3, h4, h5, h6, h7⟩ := h
    have V := var_of o.toXO h1
    have e0 := beq_iff_eq.mp h0
    subst e0
    exact rs_app V.ix V.vis V.dbg V.cd (List.contains_iff_mem.mp h2) (List.contains_iff_mem.mp h3) ((snd e C X ex o.toXO t h5).1.ev false fun _ => h4) h6 h7
  | Mu, .ex e, C, X, st, o, t, h => by
    cases st <;> first | cases h | skip
    rename_i ex pos
    simp only [chkS, Bool.and_eq_true] at h
    exact rs_expr ((snd e C X ex o.toXO t h.1).1.ev true fun z => nomatch z) h.2
  | Mu, .iff c a b, C, X, st, o, t, h => by
    cases st <;> first | cases h | skip
    rename_i ec ea eb pos
    simp only [chkS, Bool.and_eq_true] at h
    refine tS_congr (rs_if (snd c C X ec o.toXO t h.1).2.t (sndSs Mu a C X ea o t h.2.1) (sndSs Mu b C X eb o t h.2.2)) fun δ S => ?_
    simp only [denS, M.bind_run]
    cases denX Φ c δ S <;> rfl
  | Mu, .forr tg kk it body, C, X, st, o, t, h => by
    cases st <;> first | cases h | skip
    rename_i etg eit eb els pos
    cases els <;> first | cases h | skip
    simp only [chkS, Bool.and_eq_true] at h
    obtain ⟨h1, h2, h3, h4⟩ := h
    refine tS_congr (PS.mono (rs_for o.pass o.calm (sndi (lessM Mu it) kk it C X eit etg o.toXO t h2) (tg_of o.toXO tg etg h1).1 (sndSs (lessM Mu it) body C X eb o t h4) h3) (lessM_sub it)) fun δ S => ?_
    have e1 : denS Φ Nf (.forr tg kk it body) δ S = (do
      let ds ← denXs Φ it δ
      let items ← M.ofO (itemsOf kk ds)
      forL (fun d δ' => do
        let δ'' ← M.ofO (bindT tg d δ')
        denSs Φ Nf body δ'') items δ : M Fl) S := rfl
    rw [e1]
    unfold itF
    simp only [M.bind_run]
    cases denXs Φ it δ S <;> rfl
  | Mu, .whl c body, C, X, st, o, t, h => by
    cases st <;> first | cases h | skip
    rename_i ec eb els pos
    cases els <;> first | cases h | skip
    simp only [chkS, Bool.and_eq_true] at h
    exact rs_while o.pass (snd c C X ec o.toXO t h.1).2.t (sndSs Mu body C X eb o t h.2)
  | Mu, .ret none, C, X, st, o, t, h => by
    cases st <;> first | cases h | skip
    rename_i v pos
    cases v <;> first | cases h | skip
    simp only [chkS, Bool.not_eq_true'] at h
    subst h
    exact rs_retN
  | Mu, .ret (some e), C, X, st, o, t, h => by
    cases st <;> first | cases h | skip
    rename_i v pos
    cases v <;> first | cases h | skip
    rename_i ex
    simp only [chkS, Bool.and_eq_true] at h
    have sn := (snd e { C with own := [] } X ex ⟨o.prog, o.w, o.K, o.mg, o.base, o.N, o.nd, o.sc, o.calm, o.room, o.gd, o.fb⟩ t h.1).1
    have h2 := h.2
    cases nw with
    | true =>
      simp only [if_true] at h2
      exact rs_retX (sn.nw h2)
    | false =>
      simp only [Bool.false_eq_true, if_false] at h2
      exact rs_ret (sn.ev false fun _ => h2)
  | Mu, .retO i, C, X, st, o, t, h => by
    cases st <;> first | cases h | skip
    rename_i v pos
    cases v <;> first | cases h | skip
    rename_i ex
    cases ex <;> first | cases h | skip
    simp only [chkS, Bool.and_eq_true] at h
    obtain ⟨h0, h1, h2⟩ := h
    subst h0
    have V := var_of o.toXO h1
    exact rs_retO V.ix V.vis V.dbg V.cd (List.contains_iff_mem.mp h2)
  | Mu, .never, C, X, st, o, t, h => rs_never
  | Mu, .pass, C, X, st, o, t, h => by
    cases st <;> first | cases h | skip
    · rename_i ex pos
      cases ex <;> first | cases h | skip
      rename_i c j p
      cases c <;> first | cases h | skip
      exact rs_doc
    · exact rs_pass
  | Mu, .brk, C, X, st, o, t, h => by
    cases st <;> first | cases h | skip
    exact rs_break
theorem sndSs : ∀ (Mu : List Nat) (l : List S) (C : Cs) (X : Cx) (es : List Stmt), XS X.prog X.w X.K X.mg X.base C k X → TO X.prog X.w X.K X.mg X.base k T Φ cl → chkSs T C nw Mu l es = true → PSs X es (tS X.K cl C.own nw Mu (denSs Φ Nf l))
  | Mu, [], C, X, es, o, t, h => by
    cases es <;> first | cases h | skip
    exact rss_nil
  | Mu, s :: l, C, X, es, o, t, h => by
    cases es <;> first | cases h | skip
    rename_i e es
    simp only [chkSs, Bool.and_eq_true] at h
    exact tSs_congr (rss_cons (sndS Mu s C X e o t h.1) (sndSs Mu l C X es o t h.2)) fun δ S => rfl
end
end
end RF
end
section
set_option linter.all false
set_option maxRecDepth 100000
set_option maxHeartbeats 4000000
set_option autoImplicit false
/-! RfEnd: a law's end. -/
namespace RF
open PySem PySem.Spec L2
open PyProof.Rows hiding St
theorem rf_call {P : Program} {w : World} {K : PySem.W.Frag} {mg mb : Str → Option Value} {k : Nat} {fa a : Addr} {fd : FuncData} {x : Str} {sp : Sp} {sB : Shared} {us : List Value} {zs : List Int}
    (KX : K.In sB.heap) (gN : sB.heap.Ns mainGlobals mg) (bN : sB.heap.Ns builtinsNs mb) (bE : ∀ x : Str, x ≠ "__name__" → mb x = bootBuiltins x) (nL : sB.heap.NoLimit) (g0 : sB.gens = #[])
    (aO : sB.heap.get? a = some { cls := .type "list", data := .seq us.toArray }) (iA : IntsAre us zs) (lN : zs.length ≤ sizeLine) (rM : Room k callerA)
    (F : ∀ base : Heap, K.In base → base.Ns mainGlobals mg → FnR P w K mg base k fa fd [x] sp) (bT : ∀ (s : Shared) (w1 : Value), BindsTo s fd ⟨[w1], []⟩ [(x, w1)])
    (pS : ∀ H : Hp, Only H → SqL K H a (zs.map V.int) → sp [.ref a] H (fun v _ => v = .bl true) fun _ _ _ => False)
    :
    codeAny (model P w) callerA (.call (.ref fa) ⟨[.ref a], []⟩) (fun r s' => r = .ok (.ret (.bool true)) ∧ OldK sB.heap s'.heap ∧ s'.os = sB.os ∧ AllBare s'.gens) sB := by
  have rU := vals_ints iA
  have lU := iA.length
  -- from an abstract heap in which nothing but the script may be tracked
  have main : ∀ H : Hp, Only H → SqL K H a (zs.map V.int) → HOk P w H sB.heap → (∀ c, H c ≠ none → c = a) → (H a ≠ none → K.lookup a = none) →
      codeAny (model P w) callerA (.call (.ref fa) ⟨[.ref a], []⟩) (fun r s' => r = .ok (.ret (.bool true)) ∧ OldK sB.heap s'.heap ∧ s'.os = sB.os ∧ AllBare s'.gens) sB := by
    intro H oH sH kH onlyA offK
    have inBase : ∀ {c : Addr} {oj : Obj}, sB.heap.get? c = some oj → H c = none → (hidT sB.heap H).get? c = some oj := fun e n => hidT_get e n
    have noDict : ∀ {c : Addr} {oj : Obj} {es : Array DictEntry} {ep : Nat}, sB.heap.get? c = some oj → oj.data = .dict es ep → H c = none := fun {c oj es ep} e d => by
      cases q : H c with
      | none => rfl
      | some w1 =>
        have e' : c = a := onlyA c (by rw [q]; simp)
        subst e'
        rw [aO] at e; cases e
        have d' : Data.seq us.toArray _ = Data.dict es ep := d
        cases d'
    have nsB : ∀ {c : Addr} {m : Str → Option Value}, sB.heap.Ns c m → (hidT sB.heap H).Ns c m := fun {c m} ⟨oj, es, ep, e, d, r⟩ => ⟨oj, es, ep, inBase e (noDict e d), d, r⟩
    have kB : K.In (hidT sB.heap H) := fun c oj e => inBase (KX c oj e) (by
      cases q : H c with
      | none => rfl
      | some w1 =>
        have e' : c = a := onlyA c (by rw [q]; simp)
        subst e'
        rw [offK (by rw [q]; simp)] at e; cases e)
    have mB : Mod K mg (hidT sB.heap H) := ⟨kB, nsB gN, ⟨mb, nsB bN, bE⟩, let ⟨mc, h1, h2⟩ := nL; ⟨mc, nsB h1, h2⟩⟩
    have envB : Env0 P w K mg (hidT sB.heap H) callerA [] sB H := ⟨rfl, mB, fun c oj e => of_hidT e, Nat.le_of_eq (hidT_size _ _), trivial, fun c bN => absurd (show c ∈ ([] : List Addr) from bN) (by simp), kH, .of_eq g0⟩
    refine codeAny_mono ((F _ kB (nsB gN)).run callerA [] sB H ⟨[.ref a], []⟩ [.ref a] [.ref a] _ _ rM rfl envB (bT sB (.ref a)) (.cons rfl .nil) (pS H oH sH)) fun r s' h => ?_
    cases r with
    | error e => exact h.elim
    | ok fl =>
      cases fl with
      | next => exact False.elim h
      | brk => exact False.elim h
      | cont => exact False.elim h
      | ret w1 =>
        obtain ⟨v, H', os, bare, un, kH', r', q⟩ := h
        have q' : v = .bl true := q
        subst q'
        obtain rfl : w1 = Value.bool true := r'
        refine ⟨rfl, OldK.of_keep fun c oj e => ?_, os, bare⟩
        cases q : H c with
        | none => exact un.keep c oj e q (by intro z; exact absurd (show c ∈ ([] : List Addr) from z) (by simp)) (by simp)
        | some w1 =>
          rcases oH c with z | ⟨oj, xs, z⟩
          · rw [q] at z; cases z
          · have z2 := un.frzs c oj _ z
            obtain ⟨e1, _⟩ := kH c _ z
            obtain ⟨e2, _⟩ := kH' c _ z2
            rw [e] at e1; cases e1
            exact e2
  cases hk : K.lookup a with
  | some oj =>
    -- the script is one of the module's own objects
    have e := KX a oj hk
    rw [aO] at e
    cases e
    refine main (fun _ => none) (fun _ => .inl rfl) (.inr ⟨_, us.toArray, _, hk, rfl, rfl, rfl, by rw [List.size_toArray, lU]; exact lN, by simpa using rU⟩) (fun c w1 z => by have z' : (none : Option HO) = some w1 := z; cases z') (fun c z => absurd rfl z) fun z => absurd rfl z
  | none =>
    refine main (fun c => if c = a then some (.frz { cls := .type "list", data := .seq us.toArray } (.lst (zs.map V.int))) else none) (fun c => ?_) (.inl (.inr ⟨{ cls := .type "list", data := .seq us.toArray }, if_pos rfl⟩)) (fun c w1 z => ?_) (fun c z => ?_) fun _ => hk
    · by_cases bN : c = a
      · exact .inr ⟨_, _, if_pos bN⟩
      · exact .inl (if_neg bN)
    · by_cases bN : c = a
      · have z' := (if_pos bN).symm.trans z
        cases z'
        subst bN
        exact ⟨aO, by rw [List.length_map]; exact lN, us, _, rU, aO⟩
      · have z' := (if_neg bN).symm.trans z
        cases z'
    · by_cases bN : c = a
      · exact bN
      · exact absurd (if_neg bN) z
/-- the script, as the law is given it -/
theorem script_rep {K : PySem.W.Frag} {cl : Nat → Addr} {H : Hp} {a : Addr} {ns : List Int} (o : Only H) (h : SqL K H a (ns.map V.int)) : Rep K cl ⟨[], fun _ => none, fun _ => False⟩ H (.ref a) (.frz (ns.map D.int)) := by
  have hb : ∀ b, ¬ Wd.bar ⟨[], fun _ => none, fun _ => False⟩ b := fun b z => by
    rcases z with z | ⟨i, z⟩ | z
    · cases z
    · cases z
    · exact z
  have he : ∀ (i : Nat) (v : V) (d : D), (ns.map V.int)[i]? = some v → (ns.map D.int)[i]? = some d → Rep K cl ⟨[], fun _ => none, fun _ => False⟩ H v d := fun i v d h1 h2 => by
    rw [List.getElem?_map] at h1 h2
    cases e : ns[i]? with
    | none => rw [e] at h1; cases h1
    | some n => rw [e] at h1 h2; cases h1; cases h2; exact .int n
  rcases h with (h | ⟨ob, h⟩) | h
  · rcases o a with z | ⟨_, _, z⟩ <;> (rw [h] at z; cases z)
  · exact .frz (.inl ⟨ob, h, hb a⟩) (by simp) he
  · exact .frz (.inr (.inr h)) (by simp) he
theorem rf_walk {l : PySem.W.OpenLaw} {n k : Nat} {q : Program} {loose : List Str} {XP : (Str → Option Value) → Heap → Prop} {YP : World → Heap → Prop} {d : DefRec} {x : Str} (hn : l.most = some n) (hn2 : n ≤ sizeLine) (hdf : d.params.defaults = []) (rM : Room k callerA)
    (F : ∀ (w : World) (mg : Str → Option Value) (fa : Addr) (h : Heap), YP w h → h.Ns mainGlobals mg → mg d.name = some (.ref fa) → ∃ (K : PySem.W.Frag) (fd : FuncData) (cl : Nat → Addr) (g : List D → M D), K.In h ∧ (∀ (s : Shared) (u : Value), BindsTo s fd ⟨[u], []⟩ [(x, u)]) ∧
      (∀ ns : List Int, ns.length ≤ n → (∀ z ∈ ns, z.natAbs.log2 ≤ 1048576) → ∃ S, g [.frz (ns.map D.int)] [] = .ok (.bl true) S) ∧ ∀ base : Heap, K.In base → base.Ns mainGlobals mg → FnR l.prog w K mg base k fa fd [x] (spOf K cl 1 g)) :
    PySem.W.WalkO q loose XP YP l.row.toRowW d [] (fun f vs => PySem.call f vs) := by
  refine Att.attach_callB hn hdf fun w sA sB mg mb fa o pm cd doc a us zs G Y ho hd hcd hmg hobj hints hlen hbits hg => ?_
  obtain ⟨K, fd, cl, g, KX, hb, hlaw, hF⟩ := F w mg fa _ Y G.T.g hmg
  refine rf_call KX G.T.g G.T.b G.T.builtins G.T.nolimit hg hobj hints (Nat.le_trans hlen hn2) rM hF hb fun H oH sH => ?_
  obtain ⟨S, e⟩ := hlaw zs hlen fun z hz => by
    have := hbits z hz
    unfold Builtin.Int.intBits at this
    split at this
    · rename_i h0
      have h1 : z.natAbs = 0 := by simpa using h0
      rw [h1]
      decide
    · omega
  refine ⟨⟨[], fun _ => none, fun _ => False⟩, [.frz (zs.map D.int)], [], rfl, ⟨List.nodup_nil, (fun a z => nomatch z), (fun i a z => nomatch z), (fun i j a z => nomatch z), fun a z => z.elim⟩, ⟨rfl, fun n a d z => by simp at z⟩, rfl, RepL.cons (script_rep oH sH) RepL.nil, ?_⟩
  rw [e]
  intro ω' v H' _ _ _ r
  cases r
  rfl
end RF
end
section
set_option linter.all false
set_option maxRecDepth 100000
set_option maxHeartbeats 4000000
set_option autoImplicit false
/-! RfFd: the defs of a program, one after another. -/
namespace RF
open PySem PySem.Spec L2
open PyProof.Rows hiding St
/-- a def: its text, and the term -/
structure Fd where
  x : Str
  params : Arguments
  code : List Stmt
  scope : Scope
  N : List Str
  ar : Nat
  own : List Nat
  Mu : List Nat
  nw : Bool
  fuel : Nat
  body : List S
  qual : Str
  /-- a class's: its number, what it is -/
  kind : Option (Nat × Knd)
/-- a class's j-th statement -/
def memS (s : Stmt) (j : Nat) : Stmt := match s with
  | .ClassDef _ _ _ b _ _ _ _ _ _ _ => b.getD j (.Pass ⟨0, 0, 0, 0⟩)
  | _ => .Pass ⟨0, 0, 0, 0⟩
abbrev Fd.ps (d : Fd) : List Str := d.N.take d.ar
abbrev Fd.dd (d : Fd) : He.DefD := ⟨(d.x, none), d.x, d.qual, d.params, d.code, d.scope, [], []⟩
noncomputable def Fd.run (d : Fd) (Φ : Fns) (ds : List D) : M D := if d.nw then runN (denSs Φ d.fuel d.body) d.N.length ds else runB (denSs Φ d.fuel d.body) d.N.length ds
/-- the defs known: the last one first -/
noncomputable def phi (B : Fns) : List (Nat × Fd) → Fns
  | [] => { B with fn := fun _ _ => M.no }
  | (n, d) :: r => { B with fn := fun j => if j = n then d.run (phi B r) else (phi B r).fn j }
def tabF (L : List (Nat × Fd)) : List (Nat × Str × Nat × Bool × List Str) := L.filterMap fun p => match p.2.kind with
  | none => some (p.1, p.2.x, p.2.ar, p.2.nw, p.2.ps)
  | some _ => none
def tabM (L : List (Nat × Fd)) : List (Nat × Nat × Str × Nat × Knd) := L.filterMap fun p => match p.2.kind with
  | none => none
  | some (c, kn) => some (p.1, c, p.2.x, p.2.ar, kn)
/-- how deep the calls go -/
def lev : List (Nat × Fd) → Nat
  | [] => 0
  | p :: r => lev r + (match p.2.kind with
    | none => 1
    | some _ => 2)
def scB (N ps : List Str) (sc : Scope) : Bool := (match sc.kind with | .function => true | _ => false) && (!sc.isCoroutine && (!sc.isGenerator && (decide N.Nodup && (decide (N.take ps.length = ps) && (ps.all (locB sc) && sc.names.all fun y => match y.2 with | .free => false | _ => true)))))
def fdOk (T : Tb) (d : Fd) : Bool := simpB d.params d.ps && (scB d.N d.ps d.scope && (decide (d.ps.length = d.ar) && (d.own.all (fun i => decide (d.ar ≤ i)) && (dbgB d.x && (!(d.kind.isSome && d.nw) && chkSs T ⟨d.N, d.scope, d.own, fun _ => true⟩ d.nw d.Mu d.body d.code)))))
def fdsOk (T : Tb) : List (Nat × Fd) → Bool
  | [] => true
  | (_, d) :: r => fdOk { T with fns := tabF r, mts := tabM r } d && fdsOk T r
section
theorem zip_lookup : ∀ {ps : List Str} {us : List Value}, ps.Nodup → us.length = ps.length → ∀ ms : List Str, (∀ m ∈ ms, m ∈ ps) → (ms.filter fun n => ((ps.zip us).lookup n).isNone) = [] := by
  intro ps us nd hl ms hm
  rw [List.filter_eq_nil_iff]
  intro n hn
  have h : ∀ {ps : List Str} {us : List Value}, us.length = ps.length → n ∈ ps → ((ps.zip us).lookup n).isSome = true := by
    intro ps
    induction ps with
    | nil => intro us _ h; cases h
    | cons p ps ih =>
      intro us hl h
      cases us with
      | nil => cases hl
      | cons u us =>
        rw [List.zip_cons_cons, List.lookup_cons]
        cases e : n == p with
        | true => rfl
        | false =>
          rcases List.mem_cons.mp h with z | z
          · rw [z] at e; simp at e
          · exact ih (by simpa using hl) z
  have := h hl (hm n hn)
  cases e : (ps.zip us).lookup n with
  | none => rw [e] at this; cases this
  | some u => simp
theorem zip_map : ∀ {ps : List Str} {us : List Value}, ps.Nodup → us.length = ps.length → (ps.filterMap fun n => ((ps.zip us).lookup n).map fun u => (n, u)) = ps.zip us := by
  have gen : ∀ (ps : List Str) (us : List Value) (qs : List Str) (ws : List Value), (qs ++ ps).Nodup → us.length = ps.length → ws.length = qs.length → (ps.filterMap fun n => (((qs ++ ps).zip (ws ++ us)).lookup n).map fun u => (n, u)) = ps.zip us := by
    intro ps
    induction ps with
    | nil => intro us qs ws _ _ _; rfl
    | cons p ps ih =>
      intro us qs ws nd hl hw
      cases us with
      | nil => cases hl
      | cons u us =>
        have e1 : (((qs ++ p :: ps).zip (ws ++ u :: us)).lookup p) = some u := by
          rw [List.zip_append hw.symm]
          have hq : (qs.zip ws).lookup p = none := by
            rw [List.lookup_eq_none_iff]
            intro z hz
            rw [List.nodup_append] at nd
            have hne := nd.2.2 z.1 (List.of_mem_zip hz).1 p (by simp)
            simpa using fun e => hne e.symm
          rw [List.lookup_append, hq]
          simp [List.lookup_cons]
        rw [List.filterMap_cons, e1]
        simp only [Option.map_some, List.zip_cons_cons, List.cons.injEq, true_and]
        have := ih us (qs ++ [p]) (ws ++ [u]) (by simpa using nd) (by simpa using hl) (by simp [hw])
        simpa using this
  intro ps us nd hl
  exact gen ps us [] [] nd hl rfl
theorem bind_simple {x qual : Str} {params : Arguments} {body : List Stmt} {scope : Scope} {ps : List Str} (h : simpB params ps = true) (nd : ps.Nodup) (kV doc pm : Value) (an : Option Addr) (cdv ct : Value) (us : List Value) (hl : us.length = ps.length) :
    bindArgs (PySem.W.fnOf x qual params body scope .none kV doc pm an cdv ct) ⟨us, []⟩ = pure (ps.zip us) := by
  obtain ⟨po, ar, va, ko, kd, kw, df⟩ := params
  simp only [simpB, Bool.and_eq_true, List.isEmpty_iff, Option.isNone_iff_eq_none, decide_eq_true_eq] at h
  obtain ⟨rfl, rfl, rfl, rfl, h⟩ := h
  have h1 := zip_lookup nd hl ps fun m hm => hm
  have h2 := zip_map nd hl
  unfold bindArgs PySem.W.fnOf
  simp only [h, List.map_nil, List.nil_append, List.append_nil]
  have h3 : ¬ ps.length < ps.length := Nat.lt_irrefl _
  simp [seqItems?, hl, h1, h2]
  rfl
theorem sc_of {N ps : List Str} {sc : Scope} (h : scB N ps sc = true) : FnScope N ps sc := by
  simp only [scB, Bool.and_eq_true, Bool.not_eq_true', decide_eq_true_eq, List.all_eq_true] at h
  obtain ⟨h1, h2, h3, h4, h5, h6, h7⟩ := h
  refine ⟨?_, h2, h3, h4, h5, fun x hx => ?_, fun y hy e => ?_⟩
  · split at h1
    · assumption
    · cases h1
  · have := h6 x hx
    unfold locB at this
    split at this
    · exact .inl ‹_›
    · exact .inr ‹_›
    · cases this
  · have := h7 y hy
    rw [e] at this
    cases this
variable {P : Program} {w : World} {K : PySem.W.Frag} {mg : Str → Option Value} {base : Heap} {cl : Nat → Addr} {B : Fns} {T : Tb}
/-- a checked def's promise -/
theorem fd_ok {k : Nat} {d : Fd} {Φ : Fns} {a : Addr} {fd : FuncData} (hT : TO P w K mg base k T Φ cl) (F : FunD K d.x d.qual d.params d.code d.scope [] [] a fd) (h : fdOk T d = true) :
    FnR P w K mg base (k + 1) a fd d.ps (if d.nw = true then spOfN K cl d.ar (d.run Φ) else spOf K cl d.ar (d.run Φ)) ∧ (Binds K fd d.ps [] ∧ KwB fd d.ps) := by
  simp only [fdOk, Bool.and_eq_true, decide_eq_true_eq, List.all_eq_true] at h
  obtain ⟨h1, h2, h3, h4, h5, _, h6⟩ := h
  have Sc := sc_of h2
  have hnp : d.ps.Nodup := List.Nodup.sublist (List.take_sublist _ _) Sc.nd
  refine ⟨?_, F.bindsN fun kV doc pm an cdv ct us hl => bind_simple h1 hnp kV doc pm an cdv ct us hl, kwB F h1 hnp⟩
  have ho : ∀ i ∈ d.own, d.ps.length ≤ i := fun i hi => by rw [h3]; exact h4 i hi
  obtain ⟨oc, od, dV, kV, doc, pm, an, cdv, ct, osl, rfl, lk, hcd, _, _⟩ := F.ex
  have xs : ∀ (A : Around) (outer : List Env) (s : Shared) (H : Hp) (E : XK), Room k (A.deeper (envOfC d.qual d.scope s.heap.objs.size a cdv)) → (A.deeper (envOfC d.qual d.scope s.heap.objs.size a cdv)).guards = some [] →
      XS P w K mg base ⟨d.N, d.scope, d.own, fun _ => true⟩ k (cxOf CX0 P w K mg base d.N d.qual d.scope a cdv A outer s H E).nox := fun A outer s H E hr gd =>
    ⟨⟨rfl, rfl, rfl, rfl, rfl, rfl, Sc.nd, rfl, rfl, hr, gd, fun _ _ => rfl⟩, Sc.kind, PassesOwn.never, fun _ => rfl⟩
  cases hn : d.nw with
  | true =>
    simp only [if_true]
    rw [hn] at h6
    have := fnn_body (cl := cl) (P := P) (w := w) (mg := mg) (base := base) (Mu := d.Mu) (F := denSs Φ d.fuel d.body) lk hcd Sc ho fun A outer s H E hr gd => sndSs _ d.body _ _ d.code (xs A outer s H E hr gd) hT h6
    have e : d.run Φ = runN (denSs Φ d.fuel d.body) d.N.length := by funext ds; simp [Fd.run, hn]
    rw [e, ← h3]
    exact this
  | false =>
    simp only [Bool.false_eq_true, if_false]
    rw [hn] at h6
    have := fnr_body (cl := cl) (P := P) (w := w) (mg := mg) (base := base) (Mu := d.Mu) (F := denSs Φ d.fuel d.body) lk hcd Sc ho fun A outer s H E hr gd => sndSs _ d.body _ _ d.code (xs A outer s H E hr gd) hT h6
    have e : d.run Φ = runB (denSs Φ d.fuel d.body) d.N.length := by funext ds; simp [Fd.run, hn]
    rw [e, ← h3]
    exact this
/-- where a def stands -/
def FdAt (K : PySem.W.Frag) (mg : Str → Option Value) (cl : Nat → Addr) (d : Fd) : Prop := ∃ a fd, FunD K d.x d.qual d.params d.code d.scope [] [] a fd ∧ (match d.kind with
  | none => mg d.x = some (.ref a)
  | some (c, .meth) => Cls K (cl c) ∧ Meth K (cl c) d.x a
  | some (c, .prop) => Cls K (cl c) ∧ ∃ q, PropOf K (cl c) d.x q a
  | some (c, .init) => Cls K (cl c) ∧ L2.Mk K (cl c) a)
theorem lookup_fm {α β : Type} {g : Nat × α → Option (Nat × β)} (hg : ∀ p q, g p = some q → q.1 = p.1) : ∀ {L : List (Nat × α)} {n : Nat} {p : Nat × α} {v : β}, List.lookup n ((p :: L).filterMap g) = some v → (n = p.1 ∧ g p = some (n, v)) ∨ (n = p.1 ∧ g p = none ∧ List.lookup n (L.filterMap g) = some v) ∨ (n ≠ p.1 ∧ List.lookup n (L.filterMap g) = some v) := by
  intro L n p v h
  rw [List.filterMap_cons] at h
  cases e : g p with
  | none =>
    rw [e] at h
    by_cases z : n = p.1
    · exact .inr (.inl ⟨z, rfl, h⟩)
    · exact .inr (.inr ⟨z, h⟩)
  | some q =>
    rw [e] at h
    have hq := hg p q e
    obtain ⟨q1, q2⟩ := q
    dsimp only at h hq
    rw [List.lookup_cons] at h
    by_cases z : n = q1
    · have z' : (n == q1) = true := by simpa using z
      rw [z'] at h
      cases h
      exact .inl ⟨z.trans hq, by rw [z]⟩
    · have z' : (n == q1) = false := by simpa using z
      rw [z'] at h
      exact .inr (.inr ⟨fun y => z (y.trans hq.symm), h⟩)
theorem mem_fm {α β : Type} {g : Nat × α → Option (Nat × β)} {f : Nat} {v : β} : ∀ {L : List (Nat × α)}, List.lookup f (L.filterMap g) = some v → ∃ p ∈ L, g p = some (f, v)
  | [], z => by cases z
  | p :: L, z => by
    rw [List.filterMap_cons] at z
    cases e : g p with
    | none => rw [e] at z; obtain ⟨q, h1, h2⟩ := mem_fm z; exact ⟨q, List.mem_cons_of_mem _ h1, h2⟩
    | some q =>
      rw [e] at z
      obtain ⟨q1, q2⟩ := q
      rw [List.lookup_cons] at z
      by_cases y : f = q1
      · have y' : (f == q1) = true := by simpa using y
        rw [y'] at z
        cases z
        exact ⟨p, by simp, by rw [e, y]⟩
      · have y' : (f == q1) = false := by simpa using y
        rw [y'] at z
        obtain ⟨q, h1, h2⟩ := mem_fm z
        exact ⟨q, List.mem_cons_of_mem _ h1, h2⟩
/-- no number twice -/
def numB : List (Nat × Fd) → Bool
  | [] => true
  | p :: r => r.all (fun q => decide (q.1 ≠ p.1)) && numB r
/-- all checked defs keep their promises -/
theorem fds_ok (hB : TO P w K mg base 0 { T with fns := [], mts := [] } { B with fn := fun _ _ => M.no } cl) : ∀ {L : List (Nat × Fd)}, numB L = true → fdsOk T L = true → (∀ p ∈ L, FdAt K mg cl p.2) →
    TO P w K mg base (lev L) { T with fns := tabF L, mts := tabM L } (phi B L) cl
  | [], _, _, _ => hB
  | (n, d) :: L, hn, h, hF => by
    simp only [fdsOk, Bool.and_eq_true] at h
    simp only [numB, Bool.and_eq_true, List.all_eq_true, decide_eq_true_eq] at hn
    have ih := fds_ok hB hn.2 h.2 fun p hp => hF p (List.mem_cons_of_mem _ hp)
    obtain ⟨a, fd, F, hm⟩ := hF (n, d) (by simp)
    obtain ⟨g1, g2⟩ := fd_ok ih F h.1
    have hdb : (d.x == ("__debug__" : Str)) = false := by
      have h1 := h.1
      simp only [fdOk, Bool.and_eq_true] at h1
      exact dbg_of h1.2.2.2.2.1
    have hnk : (d.kind.isSome && d.nw) = false := by
      have h1 := h.1
      simp only [fdOk, Bool.and_eq_true, Bool.not_eq_true'] at h1
      exact h1.2.2.2.2.2.1
    have hl : lev L + 1 ≤ lev ((n, d) :: L) := by
      show _ ≤ lev L + _
      cases d.kind <;> dsimp only <;> omega
    have notL : ∀ {α : Type} {g : Nat × Fd → Option (Nat × α)}, (∀ p q, g p = some q → q.1 = p.1) → ∀ {f : Nat} {v : α}, List.lookup f (L.filterMap g) = some v → f ≠ n := fun {α g} hg {f v} z y => by
      have hmem := mem_fm z
      obtain ⟨p, hp, e⟩ := hmem
      have h1 := hg p _ e
      dsimp only at h1
      exact hn.1 p hp (h1.symm.trans y)
    have fnE : ∀ f, f ≠ n → (phi B ((n, d) :: L)).fn f = (phi B L).fn f := fun f z => by simp [phi, z]
    have fnN : (phi B ((n, d) :: L)).fn n = d.run (phi B L) := by simp [phi]
    have tg : ∀ (p : Nat × Fd) (q : Nat × Str × Nat × Bool × List Str), (match p.2.kind with
      | none => some (p.1, p.2.x, p.2.ar, p.2.nw, p.2.ps)
      | some _ => none) = some q → q.1 = p.1 := fun p q e => by
      cases hk : p.2.kind with
      | none => rw [hk] at e; cases e; rfl
      | some _ => rw [hk] at e; cases e
    have tm : ∀ (p : Nat × Fd) (q : Nat × Nat × Str × Nat × Knd), (match p.2.kind with
      | none => none
      | some (c, kn) => some (p.1, c, p.2.x, p.2.ar, kn)) = some q → q.1 = p.1 := fun p q e => by
      cases hk : p.2.kind with
      | none => rw [hk] at e; cases e
      | some z => rw [hk] at e; cases e; rfl
    have eg : (phi B ((n, d) :: L)).gl = (phi B L).gl := by
      cases L with
      | nil => rfl
      | cons p L => rfl
    have et : (phi B ((n, d) :: L)).tb = (phi B L).tb := by
      cases L with
      | nil => rfl
      | cons p L => rfl
    have ec : (phi B ((n, d) :: L)).nc = (phi B L).nc := by
      cases L with
      | nil => rfl
      | cons p L => rfl
    refine ⟨fun f x ar nw ps e => ?_, ?_, ?_, ih.bls, ih.cls, ?_, ?_, fun f c m ar kn e => ?_, ih.fds⟩
    · rcases lookup_fm tg (show List.lookup f (((n, d) :: L).filterMap _) = _ from e) with ⟨rfl, e1⟩ | ⟨rfl, e1, e2⟩ | ⟨z, e2⟩
      · cases hk : d.kind with
        | some _ => dsimp only at e1; rw [hk] at e1; cases e1
        | none =>
          dsimp only at e1
          rw [hk] at e1 hm
          cases e1
          refine ⟨a, fd, hm, F.kp, g2, ?_, hdb⟩
          rw [fnN]
          exact g1.mono hl
      · exact absurd rfl (notL tg e2)
      · obtain ⟨b, fd', k1, k2, k3, k4, k5⟩ := ih.fns f x ar nw ps e2
        refine ⟨b, fd', k1, k2, k3, ?_, k5⟩
        rw [fnE f z]
        exact k4.mono (by omega)
    · intro i x dd e
      rw [eg]
      exact ih.gls i x dd e
    · intro i x l e
      rw [et]
      exact ih.tbs i x l e
    · rw [ec]
      exact ih.kit
    · rw [ec]
      exact ih.clk
    · rcases lookup_fm tm (show List.lookup f (((n, d) :: L).filterMap _) = _ from e) with ⟨rfl, e1⟩ | ⟨rfl, e1, e2⟩ | ⟨z, e2⟩
      · cases hk : d.kind with
        | none => dsimp only at e1; rw [hk] at e1; cases e1
        | some r =>
          obtain ⟨c', kn'⟩ := r
          dsimp only at e1
          have hnw : d.nw = false := by
            rw [hk] at hnk
            simpa using hnk
          have hl2 : lev ((f, d) :: L) = lev L + 2 := by
            show lev L + _ = _
            dsimp only
            rw [hk]
          rw [hk] at e1 hm
          cases e1
          rw [hnw] at g1
          simp only [Bool.false_eq_true, if_false] at g1
          rw [fnN, hl2]
          cases kn with
          | meth => exact ⟨_, fd, d.ps, Nat.le_refl _, g2.1, hm.1, a, hm.2, g1⟩
          | prop => obtain ⟨m1, q, m2⟩ := hm; exact ⟨_, fd, d.ps, Nat.le_refl _, g2.1, m1, q, a, m2, g1⟩
          | init => exact ⟨_, fd, d.ps, Nat.le_refl _, g2.1, hm.1, a, hm.2, g1⟩
      · exact absurd rfl (notL tm e2)
      · obtain ⟨j, fd', ps, k1, k2, k3, k4⟩ := ih.mts f c m ar kn e2
        refine ⟨j, fd', ps, by omega, k2, k3, ?_⟩
        rw [fnE f z]
        exact k4
end
end RF
end
section
set_option linter.all false
set_option maxRecDepth 100000
set_option maxHeartbeats 4000000
set_option autoImplicit false
/-! RfLaw: a law, from its checked defs and from what its term computes. -/
namespace RF
open PySem PySem.Spec L2
open PyProof.Rows hiding St
def dvOf : D → He.Dv
  | .bl b => .bl b
  | .int i => .int i
  | .str x => .str x
  | _ => .non
/-- the module's object at x has no dict of its own -/
def noDi (K : PySem.W.Frag) (x : Str) : Bool := match K.lookup (He.ga K x) with
  | some o => o.dict.isNone
  | none => false
theorem noDi_ok {K : PySem.W.Frag} {x : Str} {vs : List V} (h : noDi K x = true) (q : SqT K (fun _ => none) (He.ga K x) vs) (H : Hp) : PTu K H (He.ga K x) vs := by
  rcases q with (q | ⟨_, q⟩) | ⟨o, us, n, h1, h2, h3⟩
  · cases q
  · cases q
  · refine .inr ⟨o, us, n, h1, h2, ?_, h3⟩
    unfold noDi at h
    rw [h1] at h
    exact Option.isNone_iff_eq_none.mp h
/-- the module's name x is this constant -/
def gB (K : PySem.W.Frag) (x : Str) : D → Bool
  | .int i => (He.Fa.int x i).ok K
  | .str z => (He.Fa.str x z).ok K
  | .tup ds => (He.Fa.glo x).ok K && (He.tupB K x (ds.map dvOf) && (noDi K x && ds.all D.flat))
  | _ => false
/-- a written dict's entries -/
def vB : Value → D → Bool
  | .int i _, .int j => i == j
  | .str x _, .str y => x == y
  | _, _ => false
def entB : List DictEntry → List (Str × D) → Bool
  | [], [] => true
  | e :: r, (k, d) :: l => (match e.key with
    | .str x _ => x == k
    | _ => false) && (vB e.val d && entB r l)
  | _, _ => false
def tblB (K : PySem.W.Frag) (a : Addr) (l : List (Str × D)) : Bool := match K.lookup a with
  | some ⟨_, _, .dict es _, _⟩ => entB es.toList l
  | _ => false
abbrev Tbs : Type := List (Nat × Str × List (Str × D))
def constB (gs : List (Nat × Str × D)) (ts : Tbs) (K : PySem.W.Frag) : Bool := (gs.all fun p => gB K p.2.1 p.2.2) && ts.all fun p => (He.Fa.glo p.2.1).ok K && tblB K (He.ga K p.2.1) p.2.2
/-- what a law's proof gives; cls: the classes, with the attributes of their instances -/
structure LawD where
  L : List (Nat × Fd)
  gls : List (Nat × Str × D)
  tbs : Tbs
  bls : List Str
  tys : List Ty
  cls : List (Str × List Str)
def LawD.cn (l : LawD) (c : Nat) : Str := match l.cls[c]? with
  | some p => p.1
  | none => ""
def fdsOf : Nat → List (Str × List Str) → List (Nat × Str)
  | _, [] => []
  | c, p :: r => p.2.map (fun n => (c, n)) ++ fdsOf (c + 1) r
def LawD.T (l : LawD) : Tb := ⟨tabF l.L, l.gls, l.tbs, l.bls, l.cls.map (·.1), l.tys, tabM l.L, fdsOf 0 l.cls⟩
def LawD.B (l : LawD) : Fns := ⟨fun i => match l.tbs.lookup i with | some (_, d) => d | none => [], l.cls.length, fun i => match l.gls.lookup i with | some (_, d) => d | none => .non, fun _ _ => M.no⟩
/-- where a class stands -/
def LawD.cl (l : LawD) (K : PySem.W.Frag) (c : Nat) : Addr := He.ga K (l.cn c)
/-- a property's getter -/
def prAd (K : PySem.W.Frag) (C : Addr) (m : Str) : Addr := match PySem.W.recIn K (He.ma K C m) "property" with
  | some (.ref g :: _) => g
  | _ => 0
def LawD.adr (l : LawD) (K : PySem.W.Frag) (d : Fd) : Addr := match d.kind with
  | none => He.ga K d.x
  | some (c, .prop) => prAd K (l.cl K c) d.x
  | some (c, .meth) => He.ma K (l.cl K c) d.x
  | some (c, .init) => He.ma K (l.cl K c) "__init__"
/-- what must be true of a def's place -/
def LawD.whB (l : LawD) (K : PySem.W.Frag) (d : Fd) : Bool := match d.kind with
  | none => (He.Fa.glo d.x).ok K
  | some (c, .meth) => (He.Fa.cls (l.cn c)).ok K && (He.Fa.meth (l.cn c) d.x).ok K
  | some (c, .init) => (He.Fa.cls (l.cn c)).ok K && ((He.Fa.mkr (l.cn c)).ok K && (d.x == ("__init__" : Str)))
  | some (c, .prop) => (He.Fa.cls (l.cn c)).ok K && (He.eqO (PySem.W.findIn K (.ref (l.cl K c)) d.x) (some (some (.ref (He.ma K (l.cl K c) d.x)))) && (He.eqO (PySem.W.specialIn K (.ref (He.ma K (l.cl K c) d.x)) "__get__") (some (some (.builtin "property.__get__"))) &&
      (decide (PySem.W.takesIn K (.ref (He.ma K (l.cl K c) d.x)) = some true) && (match PySem.W.recIn K (He.ma K (l.cl K c) d.x) "property" with
      | some (.ref _ :: _) => true
      | _ => false))))
def fnWA (K : PySem.W.Frag) (a : Addr) : He.FnW := match K.lookup a with
  | some ⟨_, _, .func fd, _⟩ => some (fd.name, fd.qualname, fd.params, fd.body, fd.scope, fd.globals, fd.closure, fd.builtins)
  | _ => none
def okWA (K : PySem.W.Frag) (a : Addr) (q : Str) : Bool := PySem.W.keepIn K (.ref a) && (match K.lookup a with
  | some ⟨_, _, .func fd, _⟩ => PySem.W.codeIn K fd.code q && (He.dflB K fd.defaults [] && He.kwdB K fd.kwdefaults [])
  | _ => false)
theorem funD_at {K : PySem.W.Frag} {d : He.DefD} {a : Addr} (e : fnWA K a = d.val) (c : okWA K a d.qual = true) : ∃ fd, FunD K d.name d.qual d.params d.body d.scope [] [] a fd := by
  obtain ⟨kp, c2⟩ := He.ba c
  unfold fnWA at e
  cases q : K.lookup a with
  | none =>
    rw [q] at c2
    cases c2
  | some o =>
    obtain ⟨oc, od, dt, osl⟩ := o
    rw [q] at c2 e
    cases dt with
    | func fd =>
      obtain ⟨n1, n2, n3, n4, n5, n6, n7, n8, n9, n10, n11, n12, n13, n14, n15⟩ := fd
      have e2 : (some (n1, n2, n3, n4, n5, n6, n7, n15) : He.FnW) = some (d.name, d.qual, d.params, .stmts d.body, d.scope, mainGlobals, [], builtinsNs) := e
      simp only [Option.some.injEq, Prod.mk.injEq] at e2
      obtain ⟨h1, h2, h3, h4, h5, h6, h7, h8⟩ := e2
      subst h1 h2 h3 h4 h5 h6 h7 h8
      have c3 : (PySem.W.codeIn K n13 d.qual && (He.dflB K n8 [] && He.kwdB K n9 [])) = true := c2
      obtain ⟨k1, k2⟩ := He.ba c3
      obtain ⟨k3, k4⟩ := He.ba k2
      exact ⟨_, ⟨oc, od, n8, n9, n10, n11, n12, n13, n14, osl, rfl, q, k1, He.dflB_ok k3, He.kwdB_ok k4⟩, kp⟩
    | _ => cases c2
/-- data of each kind -/
def kinds (n : Nat) : List D := [.non, .bl true, .int 0, .str "", .tup [], .lst [], .frz [], .dct []] ++ (List.range n).map fun c => .ins c []
def LawD.kitB (l : LawD) (K : PySem.W.Frag) : Bool := l.tys.all fun t => (kinds l.cls.length).all fun d => decide (PySem.W.kitOne K (tyD (l.cl K) d) (kitT (l.cl K) t) = some (isTy t d))
/-- a class -/
def clsOB (K : PySem.W.Frag) (x : Str) (fs : List Str) : Bool := (He.Fa.glo x).ok K && ((He.Fa.cls x).ok K && (fs.all (fun f => (He.Fa.noat x f).ok K) && (dbgB x && (He.eqO (PySem.W.findIn K (.ref (He.ga K x)) "__class__") (some (some (.builtin "object.__class__"))) &&
  (He.eqO (PySem.W.specialIn K (.builtin "object.__class__") "__get__") (some (some (.builtin "getset_descriptor.__get__"))) && (decide (PySem.W.takesIn K (.builtin "object.__class__") = some true) && decide (PySem.W.mroIn K (He.ga K x) (.type "object") = some true)))))))
def LawD.allB (l : LawD) (K : PySem.W.Frag) : Bool := (l.L.all fun p => l.whB K p.2 && okWA K (l.adr K p.2) p.2.qual) && ((l.bls.all fun x => (He.Fa.free x).ok K) && (constB l.gls l.tbs K && (l.kitB K && l.cls.all fun p => clsOB K p.1 p.2)))
abbrev AlR : Type := Bool × List He.FnW × List (Option (List (Option (Str × Int))))
def LawD.obs (l : LawD) (K : PySem.W.Frag) : AlR := (l.allB K, l.L.map fun p => fnWA K (l.adr K p.2), l.tbs.map fun p => He.dicW K (He.ga K p.2.1))
def LawD.val (l : LawD) (w : World) : AlR := (true, l.L.map fun p => p.2.dd.val, l.tbs.map fun p => some (He.keysIn w.params (p.2.2.map (·.1))))
/-! ### which objects are looked at: those reached from the module in so many steps, each once -/
inductive BS where
  | nil
  | node (b : Bool) (l r : BS)
def BS.mem : Nat → Nat → BS → Bool
  | 0, _, _ => false
  | _, _, .nil => false
  | _ + 1, 0, .node b _ _ => b
  | f + 1, k + 1, .node _ l r => cond (Nat.beq (k % 2) 0) (BS.mem f (k / 2) l) (BS.mem f (k / 2) r)
def BS.ins : Nat → Nat → BS → BS
  | 0, _, t => t
  | _ + 1, 0, .nil => .node true .nil .nil
  | _ + 1, 0, .node _ l r => .node true l r
  | f + 1, k + 1, .nil => cond (Nat.beq (k % 2) 0) (.node false (BS.ins f (k / 2) .nil) .nil) (.node false .nil (BS.ins f (k / 2) .nil))
  | f + 1, k + 1, .node b l r => cond (Nat.beq (k % 2) 0) (.node b (BS.ins f (k / 2) l) r) (.node b l (BS.ins f (k / 2) r))
def addAll : List Addr → BS → List Addr → BS × List Addr
  | [], s, out => (s, out)
  | a :: r, s, out => cond (BS.mem 30 a s) (addAll r s out) (addAll r (BS.ins 30 a s) (a :: out))
def refsL (g : Addr → Option Obj) : List Addr → List Addr
  | [] => []
  | a :: r => match g a with
    | some o => He.refsD o ++ refsL g r
    | none => refsL g r
def levs (g : Addr → Option Obj) : Nat → BS × List Addr → List Addr → List Addr
  | 0, _, all => all
  | n + 1, p, all => match addAll (refsL g p.2) p.1 [] with
    | (s, new) => levs g n (s, new) (all ++ new)
def asT (g : Addr → Option Obj) (n : Nat) : List Addr := levs g n (BS.ins 30 mainGlobals .nil, [mainGlobals]) [mainGlobals]
def hookR (n : Nat) (l : LawD) : PySem.W.Hook where
  α := AlR
  obs := fun s => l.obs (He.frG s.heap.get? (asT s.heap.get? n))
  val := fun w => l.val w
  says := fun w h => ∃ K : PySem.W.Frag, K.In h ∧ l.obs K = l.val w
  of := fun _ _ e => ⟨_, He.frG_in, e⟩
  keeps := fun _ _ _ ⟨K, hK, c⟩ k => ⟨K, PySem.W.Frag.In.keeps hK k, c⟩
def obR (n : Nat) (l : LawD) (s : PySem.W.SharedT) : AlR := l.obs (He.frG (HandSHeadRun.getT s) (asT (HandSHeadRun.getT s) n))
theorem obR_eq {n : Nat} {l : LawD} (s : PySem.W.SharedT) : obR n l s = (hookR n l).obs s.abs := by
  have e : HandSHeadRun.getT s = s.abs.heap.get? := funext (HandSHeadRun.getT_eq s)
  unfold obR
  rw [e]
  rfl
section
variable {P : Program} {w : World} {K : PySem.W.Frag} {mg : Str → Option Value} {base h : Heap} {cl : Nat → Addr}
theorem gB_ok (X : K.In h) (G : h.Ns mainGlobals mg) {x : Str} {d : D} (c : gB K x d = true) : ∃ v u, mg x = some u ∧ RelV v u ∧ ∀ (ω : Wd) (H : Hp), Rep K cl ω H v d := by
  cases d with
  | int i =>
    obtain ⟨t, e⟩ := He.int_ok X G c
    exact ⟨.int i, _, e, ⟨t, rfl⟩, fun _ _ => .int i⟩
  | str z =>
    obtain ⟨t, e⟩ := He.str_ok X G c
    exact ⟨.str z, _, e, ⟨t, rfl⟩, fun _ _ => .str z⟩
  | tup ds =>
    simp only [gB, Bool.and_eq_true] at c
    obtain ⟨c1, c2, c4, c3⟩ := c
    refine ⟨.ref (He.ga K x), _, He.glo_ok X G c1, rfl, fun ω H => ?_⟩
    have hs := noDi_ok c4 (He.tupB_ok c2 fun _ => none) H
    refine .tup hs (by simp) fun i v d h1 h2 => ?_
    rw [List.getElem?_map, List.getElem?_map, h2] at h1
    have hf : D.flat d = true := List.all_eq_true.mp c3 d (List.mem_of_getElem? h2)
    simp only [Option.map_some, Option.some.injEq] at h1
    subst h1
    cases d with
    | non => exact .non
    | bl b => exact .bl b
    | int i => exact .int i
    | str x => exact .str x
    | _ => cases hf
  | _ => cases c
theorem vB_ok {u : Value} {d : D} (h : vB u d = true) : ∃ v, RelV v u ∧ ∀ (ω : Wd) (H : Hp), Rep K cl ω H v d := by
  cases u <;> cases d <;> first | cases h | skip
  · rename_i i t j
    have e : i = j := by simpa [vB] using h
    subst e
    exact ⟨.int i, ⟨t, rfl⟩, fun _ _ => .int i⟩
  · rename_i x t y
    have e : x = y := by simpa [vB] using h
    subst e
    exact ⟨.str x, ⟨t, rfl⟩, fun _ _ => .str x⟩
theorem entB_ok {z : Str} : ∀ {es : List DictEntry} {l : List (Str × D)}, entB es l = true → (match es.find? (·.key.isStr z) with
      | some e => some (some e.val)
      | none => if (es.any (·.refKey)) = true then none else some none) = some ((es.find? (·.key.isStr z)).map (·.val)) ∧ (match l.lookup z with
    | some d => ∃ u v, (es.find? (·.key.isStr z)).map (·.val) = some u ∧ RelV v u ∧ ∀ (ω : Wd) (H : Hp), Rep K cl ω H v d
    | none => (es.find? (·.key.isStr z)).map (·.val) = none)
  | [], [], _ => ⟨rfl, rfl⟩
  | [], _ :: _, h => by cases h
  | _ :: _, [], h => by cases h
  | e :: r, (k, d) :: l, h => by
    simp only [entB, Bool.and_eq_true] at h
    obtain ⟨h1, h2, h3⟩ := h
    obtain ⟨g1, g2⟩ := entB_ok (z := z) h3
    split at h1
    · rename_i x t q
      have ex := beq_iff_eq.mp h1
      subst ex
      have hk : e.key.isStr z = (z == x) := by
        rw [q]
        show (x == z) = (z == x)
        exact Bool.beq_comm
      rw [List.find?_cons, List.lookup_cons, hk]
      cases hz : z == x with
      | true =>
        obtain ⟨v, r1, r2⟩ := vB_ok (K := K) (cl := cl) h2
        exact ⟨rfl, e.val, v, rfl, r1, r2⟩
      | false =>
        refine ⟨?_, g2⟩
        have hr : e.refKey = false := by
          unfold DictEntry.refKey
          rw [q]
        dsimp only
        rw [List.any_cons, hr, Bool.false_or]
        exact g1
    · cases h1
theorem tblB_ok {a : Addr} {l : List (Str × D)} (h : tblB K a l = true) (z : Str) : ∃ r, PySem.W.nsIn K a z = some r ∧ (match l.lookup z with
    | some d => ∃ u v, r = some u ∧ RelV v u ∧ ∀ (ω : Wd) (H : Hp), Rep K cl ω H v d
    | none => r = none) := by
  unfold tblB at h
  unfold PySem.W.nsIn
  cases q : K.lookup a with
  | none => rw [q] at h; cases h
  | some o =>
    obtain ⟨oc, od, dt, osl⟩ := o
    rw [q] at h
    cases dt with
    | dict es n =>
      obtain ⟨g1, g2⟩ := entB_ok (K := K) (cl := cl) (z := z) h
      exact ⟨_, g1, g2⟩
    | _ => cases h
end
/-- all that is checked of a law -/
def LawD.ok (l : LawD) : Bool := numB l.L && (fdsOk l.T l.L && ((l.gls.all fun p => dbgB p.2.1) && l.tbs.all fun p => dbgB p.2.1))
section
variable {P : Program} {w : World} {K : PySem.W.Frag} {mg : Str → Option Value} {h : Heap}
theorem lookup_mem {α : Type} : ∀ {l : List (Nat × α)} {i : Nat} {v : α}, l.lookup i = some v → (i, v) ∈ l
  | [], _, _, h => by cases h
  | (j, u) :: l, i, v, h => by
    rw [List.lookup_cons] at h
    cases e : i == j with
    | true =>
      rw [e] at h
      cases h
      rw [beq_iff_eq.mp e]
      simp
    | false =>
      rw [e] at h
      exact List.mem_cons_of_mem _ (lookup_mem h)
theorem kit_of {cl : Nat → Addr} {n : Nat} {t : Ty} (hk : ∀ d ∈ kinds n, PySem.W.kitOne K (tyD cl d) (kitT cl t) = some (isTy t d)) (d : D) (no : notObj d = true) (ci : clsIn n d = true) : PySem.W.kitOne K (tyD cl d) (kitT cl t) = some (isTy t d) := by
  have key : ∃ s ∈ kinds n, tyD cl d = tyD cl s ∧ isTy t d = isTy t s := by
    cases d with
    | obj _ => cases no
    | non => exact ⟨.non, by simp [kinds], rfl, rfl⟩
    | bl b => exact ⟨.bl true, by simp [kinds], rfl, by cases t <;> rfl⟩
    | int i => exact ⟨.int 0, by simp [kinds], rfl, by cases t <;> rfl⟩
    | str x => exact ⟨.str "", by simp [kinds], rfl, by cases t <;> rfl⟩
    | tup l => exact ⟨.tup [], by simp [kinds], rfl, by cases t <;> rfl⟩
    | lst l => exact ⟨.lst [], by simp [kinds], rfl, by cases t <;> rfl⟩
    | frz l => exact ⟨.frz [], by simp [kinds], rfl, by cases t <;> rfl⟩
    | dct l => exact ⟨.dct [], by simp [kinds], rfl, by cases t <;> rfl⟩
    | ins c l =>
      have hc : c < n := by simpa [clsIn] using ci
      exact ⟨.ins c [], List.mem_append.mpr (.inr (List.mem_map.mpr ⟨c, List.mem_range.mpr hc, rfl⟩)), rfl, by cases t <;> rfl⟩
  obtain ⟨s, hs, e1, e2⟩ := key
  rw [e1, e2]
  exact hk s hs
theorem fdsOf_mem {c : Nat} {n : Str} : ∀ {l : List (Str × List Str)} {k : Nat}, (c, n) ∈ fdsOf k l → ∃ p, k ≤ c ∧ l[c - k]? = some p ∧ n ∈ p.2
  | [], _, h => by cases h
  | p :: r, k, h => by
    rcases List.mem_append.mp h with z | z
    · obtain ⟨m, hm, e⟩ := List.mem_map.mp z
      cases e
      exact ⟨p, Nat.le_refl _, by simp, hm⟩
    · obtain ⟨q, h1, h2, h3⟩ := fdsOf_mem (l := r) z
      refine ⟨q, by omega, ?_, h3⟩
      have : c - k = (c - (k + 1)) + 1 := by omega
      rw [this]
      simpa using h2
theorem law_to (l : LawD) (hok : l.ok = true) (X : K.In h) (G : h.Ns mainGlobals mg) (c : l.obs K = l.val w) (base : Heap) :
    (∀ p ∈ l.L, FdAt K mg (l.cl K) p.2 ∧ (p.2.kind = none → mg p.2.x = some (.ref (l.adr K p.2)))) ∧ TO P w K mg base 0 { l.T with fns := [], mts := [] } { l.B with fn := fun _ _ => M.no } (l.cl K) := by
  simp only [LawD.ok, Bool.and_eq_true, List.all_eq_true] at hok
  obtain ⟨_, h1, h3, h3t⟩ := hok
  have c1 : l.allB K = true := congrArg (fun z : AlR => z.1) c
  have c2 : l.L.map (fun p => fnWA K (l.adr K p.2)) = l.L.map fun p => p.2.dd.val := congrArg (fun z : AlR => z.2.1) c
  have ct : (l.tbs.map fun p => He.dicW K (He.ga K p.2.1)) = l.tbs.map fun p => some (He.keysIn w.params (p.2.2.map (·.1))) := congrArg (fun z : AlR => z.2.2) c
  simp only [LawD.allB, constB, Bool.and_eq_true] at c1
  obtain ⟨d1, d2, ⟨cg, cg2⟩, d4, d5⟩ := c1
  have clsAt : ∀ (i : Nat) (p : Str × List Str), l.cls[i]? = some p → clsOB K p.1 p.2 = true ∧ l.cl K i = He.ga K p.1 := fun i p e => by
    refine ⟨List.all_eq_true.mp d5 p (List.mem_of_getElem? e), ?_⟩
    unfold LawD.cl LawD.cn
    rw [e]
  refine ⟨fun p hp => ?_, ⟨(fun f x ar nw ps e => nomatch e), fun i x d e => ?_, fun i x l' e => ?_, fun x hx => ?_, fun cc x e => ?_, fun t ht d no ci => ?_, fun cc z => ?_, (fun f c m ar kn e => nomatch e), fun cc n e => ?_⟩⟩
  · obtain ⟨i, hi⟩ := List.mem_iff_getElem?.mp hp
    have hw := List.all_eq_true.mp d1 p hp
    rw [Bool.and_eq_true] at hw
    have e2 := congrArg (fun z => z[i]?) c2
    simp only [List.getElem?_map, hi, Option.map_some] at e2
    obtain ⟨fd, F⟩ := funD_at (Option.some.inj e2) hw.2
    have hwh := hw.1
    unfold LawD.whB at hwh
    refine ⟨⟨l.adr K p.2, fd, F, ?_⟩, fun hk => ?_⟩
    · cases hk : p.2.kind with
      | none =>
        rw [hk] at hwh
        have ea : l.adr K p.2 = He.ga K p.2.x := by unfold LawD.adr; rw [hk]
        dsimp only
        rw [ea]
        exact He.glo_ok X G hwh
      | some r =>
        obtain ⟨cc, kn⟩ := r
        rw [hk] at hwh
        cases kn with
        | meth =>
          dsimp only at hwh ⊢
          rw [Bool.and_eq_true] at hwh
          have ea : l.adr K p.2 = He.ma K (l.cl K cc) p.2.x := by unfold LawD.adr; rw [hk]
          rw [ea]
          exact ⟨He.cls_ok hwh.1, He.meth_ok hwh.2⟩
        | init =>
          dsimp only at hwh ⊢
          simp only [Bool.and_eq_true] at hwh
          have ea : l.adr K p.2 = He.ma K (l.cl K cc) "__init__" := by unfold LawD.adr; rw [hk]
          rw [ea]
          exact ⟨He.cls_ok hwh.1, He.mkr_ok hwh.2.1⟩
        | prop =>
          dsimp only at hwh ⊢
          simp only [Bool.and_eq_true, decide_eq_true_eq] at hwh
          obtain ⟨g1, g2, g3, g4, g5⟩ := hwh
          have ea : l.adr K p.2 = prAd K (l.cl K cc) p.2.x := by unfold LawD.adr; rw [hk]
          rw [ea]
          refine ⟨He.cls_ok g1, He.ma K (l.cl K cc) p.2.x, He.eqO_ok g2, He.eqO_ok g3, g4, ?_⟩
          unfold prAd
          split at g5
          · rename_i g rest e
            exact ⟨rest, by rw [e]⟩
          · cases g5
    · rw [hk] at hwh
      have ea : l.adr K p.2 = He.ga K p.2.x := by unfold LawD.adr; rw [hk]
      rw [ea]
      exact He.glo_ok X G hwh
  · have hm := lookup_mem (show l.gls.lookup i = some (x, d) from e)
    obtain ⟨v, u, g1, g2, g3⟩ := gB_ok (cl := l.cl K) X G (List.all_eq_true.mp cg _ hm)
    have e2 : (l.B).gl i = d := by
      show (match l.gls.lookup i with | some (_, d) => d | none => .non) = d
      rw [show l.gls.lookup i = some (x, d) from e]
    refine ⟨v, u, g1, g2, fun ω H => ?_, dbg_of (h3 _ hm)⟩
    show Rep K (l.cl K) ω H v (l.B.gl i)
    rw [e2]
    exact g3 ω H
  · have hm := lookup_mem (show l.tbs.lookup i = some (x, l') from e)
    have hc := List.all_eq_true.mp cg2 _ hm
    simp only [Bool.and_eq_true] at hc
    obtain ⟨j, hj⟩ := List.mem_iff_getElem?.mp hm
    have hd : He.dicW K (He.ga K x) = some (He.keysIn w.params (l'.map (·.1))) := by
      have := congrArg (fun z => z[j]?) ct
      simp only [List.getElem?_map, hj, Option.map_some] at this
      exact Option.some.inj this
    have e2 : (l.B).tb i = l' := by
      show (match l.tbs.lookup i with | some (_, d) => d | none => []) = l'
      rw [show l.tbs.lookup i = some (x, l') from e]
    refine ⟨He.ga K x, He.glo_ok X G hc.1, dbg_of (h3t _ hm), He.dicW_ok hd, fun z => ?_⟩
    have := tblB_ok (cl := l.cl K) hc.2 z
    show ∃ r, _ ∧ (match ((l.B).tb i).lookup z with
      | some d => _
      | none => _)
    rw [e2]
    exact this
  · exact He.free_ok X G (List.all_eq_true.mp d2 x hx)
  · have e' : (l.cls.map (·.1))[cc]? = some x := e
    rw [List.getElem?_map] at e'
    cases ei : l.cls[cc]? with
    | none => rw [ei] at e'; cases e'
    | some p =>
      rw [ei] at e'
      cases e'
      obtain ⟨g1, g2⟩ := clsAt cc p ei
      simp only [clsOB, Bool.and_eq_true] at g1
      rw [g2]
      exact ⟨He.glo_ok X G g1.1, dbg_of g1.2.2.2.1⟩
  · exact kit_of (n := l.cls.length) (fun d hd => of_decide_eq_true (List.all_eq_true.mp (List.all_eq_true.mp d4 t ht) d hd)) d no ci
  · have z' : cc < l.cls.length := z
    obtain ⟨g1, g2⟩ := clsAt cc l.cls[cc] (List.getElem?_eq_getElem z')
    simp only [clsOB, Bool.and_eq_true, decide_eq_true_eq] at g1
    rw [g2]
    exact ⟨He.cls_ok g1.2.1, He.eqO_ok g1.2.2.2.2.1, He.eqO_ok g1.2.2.2.2.2.1, g1.2.2.2.2.2.2.1, g1.2.2.2.2.2.2.2⟩
  · obtain ⟨p, _, e1, e2⟩ := fdsOf_mem (show (cc, n) ∈ fdsOf 0 l.cls from e)
    obtain ⟨g1, g2⟩ := clsAt cc p (by simpa using e1)
    simp only [clsOB, Bool.and_eq_true] at g1
    rw [g2]
    exact ⟨He.cls_ok g1.2.1, He.noat_ok (List.all_eq_true.mp g1.2.2.1 n e2)⟩
theorem law_walk {l : PySem.W.OpenLaw} {n m : Nat} {q : Program} {loose : List Str} {XP : (Str → Option Value) → Heap → Prop} {d : DefRec} {ld : LawD} {n0 : Nat} {dl : Fd} {L' : List (Nat × Fd)} {sx : Str}
    (hn : l.most = some n) (hn2 : n ≤ sizeLine) (hdf : d.params.defaults = []) (hL : ld.L = (n0, dl) :: L') (hok : ld.ok = true) (hps : dl.ps = [sx]) (har : dl.ar = 1) (hnw : dl.nw = false) (hkd : dl.kind = none) (hname : d.name = dl.x) (rM : Room (lev L' + 1) callerA)
    (hlaw : ∀ ns : List Int, ns.length ≤ n → (∀ z ∈ ns, z.natAbs.log2 ≤ 1048576) → ∃ S, dl.run (phi ld.B L') [.frz (ns.map D.int)] [] = .ok (.bl true) S) :
    PySem.W.WalkO q loose XP (hookR m ld).says l.row.toRowW d [] (fun f vs => PySem.call f vs) := by
  refine rf_walk (k := lev L' + 1) (x := sx) hn hn2 hdf rM fun w mg fa h Y G hmg => ?_
  obtain ⟨K, KX, c⟩ := Y
  have hF := (law_to (P := l.prog) (w := w) ld hok KX G c h).1
  obtain ⟨⟨a, fd, F, hm⟩, hm2⟩ := hF (n0, dl) (by rw [hL]; simp)
  dsimp only at hm hm2 F
  rw [hkd] at hm
  dsimp only at hm
  have ea : a = fa := by
    rw [hname, hm] at hmg
    cases hmg
    rfl
  subst ea
  have hok' := hok
  simp only [LawD.ok, Bool.and_eq_true] at hok'
  have hfd : fdOk { ld.T with fns := tabF L', mts := tabM L' } dl = true ∧ fdsOk ld.T L' = true := by
    have := hok'.2.1
    rw [hL] at this
    simpa only [fdsOk, Bool.and_eq_true] using this
  have hnum : numB L' = true := by
    have := hok'.1
    rw [hL] at this
    simp only [numB, Bool.and_eq_true] at this
    exact this.2
  have hsimp : simpB dl.params dl.ps = true := by
    have := hfd.1
    simp only [fdOk, Bool.and_eq_true] at this
    exact this.1
  refine ⟨K, fd, ld.cl K, dl.run (phi ld.B L'), KX, fun s u => ?_, hlaw, fun base _ _ => ?_⟩
  · have := FunD.bindsA (ps := dl.ps) F (fun kV doc pm an cdv ct us hl => bind_simple hsimp (by rw [hps]; simp) kV doc pm an cdv ct us hl) s [u] (by rw [hps]; rfl)
    rw [hps] at this
    exact this
  · have hB := (law_to (P := l.prog) (w := w) ld hok KX G c base).2
    have hT := fds_ok (L := L') hB hnum hfd.2 fun p hp => (hF p (by rw [hL]; exact List.mem_cons_of_mem _ hp)).1
    obtain ⟨g1, _⟩ := fd_ok hT F hfd.1
    rw [hnw, har, hps] at g1
    exact g1
end
end RF
end
section
set_option linter.all false
set_option maxRecDepth 100000
set_option maxHeartbeats 4000000
set_option autoImplicit false
/-! RfPart: the head's run looked at in parts (each its own check by the kernel, for its memory). -/
namespace RF
open PySem PySem.Spec L2 PySem.W
open PyProof.Rows hiding St
def LawD.part (l : LawD) (i : Nat) : List (Nat × Fd) := if i = 4 then l.L.drop 96 else (l.L.drop (24 * i)).take 24
theorem LawD.parts (l : LawD) : l.L = l.part 0 ++ (l.part 1 ++ (l.part 2 ++ (l.part 3 ++ l.part 4))) := by
  have h (k : Nat) (m : List (Nat × Fd)) : m = m.take k ++ m.drop k := (List.take_append_drop k m).symm
  show l.L = (l.L.drop 0).take 24 ++ ((l.L.drop 24).take 24 ++ ((l.L.drop 48).take 24 ++ ((l.L.drop 72).take 24 ++ l.L.drop 96)))
  have e0 : l.L = (l.L.drop 0).take 24 ++ l.L.drop 24 := h 24 l.L
  have e1 : l.L.drop 24 = (l.L.drop 24).take 24 ++ l.L.drop 48 := by
    have := h 24 (l.L.drop 24)
    rwa [List.drop_drop] at this
  have e2 : l.L.drop 48 = (l.L.drop 48).take 24 ++ l.L.drop 72 := by
    have := h 24 (l.L.drop 48)
    rwa [List.drop_drop] at this
  have e3 : l.L.drop 72 = (l.L.drop 72).take 24 ++ l.L.drop 96 := by
    have := h 24 (l.L.drop 72)
    rwa [List.drop_drop] at this
  rw [← e3, ← e2, ← e1]
  exact e0
def kn (n : Nat) (s : SharedT) : Frag := He.frG (HandSHeadRun.getT s) (asT (HandSHeadRun.getT s) n)
/-- what is looked at of one part's defs -/
def LawD.see (l : LawD) (n i : Nat) (s : SharedT) : Bool × List He.FnW := ((l.part i).all fun p => l.whB (kn n s) p.2 && okWA (kn n s) (l.adr (kn n s) p.2) p.2.qual, (l.part i).map fun p => fnWA (kn n s) (l.adr (kn n s) p.2))
def LawD.vals (l : LawD) (i : Nat) : Bool × List He.FnW := (true, (l.part i).map fun p => p.2.dd.val)
/-- what is looked at of the rest -/
def LawD.see2 (l : LawD) (n : Nat) (s : SharedT) : Bool × List (Option (List (Option (Str × Int)))) :=
  ((l.bls.all fun x => (He.Fa.free x).ok (kn n s)) && (constB l.gls l.tbs (kn n s) && (l.kitB (kn n s) && l.cls.all fun p => clsOB (kn n s) p.1 p.2)), l.tbs.map fun p => He.dicW (kn n s) (He.ga (kn n s) p.2.1))
def LawD.vals2 (l : LawD) (w : World) : Bool × List (Option (List (Option (Str × Int)))) := (true, l.tbs.map fun p => some (He.keysIn w.params (p.2.2.map (·.1))))
theorem of_parts {A B : Type} {l : LawD} {n : Nat} {w : World} {e : Option SharedT} {X : SharedT → A} {Y : SharedT → B} {a : A} {b : B}
    (h : e.map (fun s => (X s, Y s)) = some (a, b)) (h0 : e.map (l.see n 0) = some (l.vals 0)) (h1 : e.map (l.see n 1) = some (l.vals 1)) (h2 : e.map (l.see n 2) = some (l.vals 2)) (h3 : e.map (l.see n 3) = some (l.vals 3)) (h4 : e.map (l.see n 4) = some (l.vals 4))
    (h5 : e.map (l.see2 n) = some (l.vals2 w)) : e.map (fun s => (X s, Y s, obR n l s)) = some (a, b, l.val w) := by
  cases e with
  | none => cases h
  | some s =>
    have h := Option.some.inj h
    have h0 := Option.some.inj h0
    have h1 := Option.some.inj h1
    have h2 := Option.some.inj h2
    have h3 := Option.some.inj h3
    have h4 := Option.some.inj h4
    have h5 := Option.some.inj h5
    unfold LawD.see LawD.vals at h0 h1 h2 h3 h4
    unfold LawD.see2 LawD.vals2 at h5
    obtain ⟨x0, y0⟩ := Prod.mk.inj h0
    obtain ⟨x1, y1⟩ := Prod.mk.inj h1
    obtain ⟨x2, y2⟩ := Prod.mk.inj h2
    obtain ⟨x3, y3⟩ := Prod.mk.inj h3
    obtain ⟨x4, y4⟩ := Prod.mk.inj h4
    obtain ⟨x5, y5⟩ := Prod.mk.inj h5
    obtain ⟨xa, xb⟩ := Prod.mk.inj h
    have o : obR n l s = l.val w := by
      show (l.allB (kn n s), l.L.map (fun p => fnWA (kn n s) (l.adr (kn n s) p.2)), l.tbs.map fun p => He.dicW (kn n s) (He.ga (kn n s) p.2.1)) = (true, l.L.map fun p => p.2.dd.val, l.tbs.map fun p => some (He.keysIn w.params (p.2.2.map (·.1))))
      have c1 : l.allB (kn n s) = true := by
        unfold LawD.allB
        rw [x5, l.parts, List.all_append, List.all_append, List.all_append, List.all_append, x0, x1, x2, x3, x4]
        rfl
      have c2 : l.L.map (fun p => fnWA (kn n s) (l.adr (kn n s) p.2)) = l.L.map fun p => p.2.dd.val := by
        rw [l.parts]
        simp only [List.map_append]
        rw [y0, y1, y2, y3, y4]
      rw [c1, c2, y5]
    show some (X s, Y s, obR n l s) = _
    rw [xa, xb, o]
end RF
end
section
set_option linter.all false
set_option autoImplicit false
/-! RfProg: the program's functions as terms (printed by gen.py). -/
namespace RF
open PySem (Str)
def fuel : Nat := 2 ^ 20000
/-- 0 -/
def p_is_between : List S := [(.iff (.or [(.not (.isi (.var 0) .int)), (.isi (.var 0) .bool)]) [(.ret (some (.cst (.bl false))))] []), (.ret (some (.and [(.or [(.cmp .isN (.var 1) (.cst .non)), (.cmp .ge (.var 0) (.var 1))]), (.or [(.cmp .isN (.var 2) (.cst .non)), (.cmp .le (.var 0) (.var 2))])])))]
noncomputable def g_is_between (Φ : Fns) (ds : List D) : M D := runB (denSs Φ fuel p_is_between) 3 ds
/-- 2 -/
def p_common : List S := [(.asg (.nm 0) (.bi .abs [(.var 0)])), (.whl (.cmp .gt (.var 1) (.cst (.int 0))) [(.par [0, 1] [(.var 1), (.bin .mod (.bi .int [(.var 0)]) (.var 1))])]), (.ret (some (.var 0)))]
noncomputable def g_common (Φ : Fns) (ds : List D) : M D := runB (denSs Φ fuel p_common) 2 ds
/-- 3 -/
def p_lowest : List S := [(.asg (.nm 2) (.call 2 [(.var 0), (.var 1)])), (.ret (some (.tup [(.bin .fdiv (.var 0) (.var 2)), (.bin .fdiv (.var 1) (.var 2))])))]
noncomputable def g_lowest (Φ : Fns) (ds : List D) : M D := runB (denSs Φ fuel p_lowest) 3 ds
/-- 4 -/
def p_is_fraction : List S := [(.iff (.or [(.not (.isi (.var 0) .tuple)), (.cmp .ne (.bi .len [(.var 0)]) (.cst (.int 2)))]) [(.ret (some (.cst (.bl false))))] []), (.iff (.or [(.not (.call 0 [(.ix (.var 0) (.cst (.int 0))), (.cst .non), (.cst .non)])), (.not (.call 0 [(.ix (.var 0) (.cst (.int 1))), (.cst (.int 1)), (.cst .non)]))]) [(.ret (some (.cst (.bl false))))] []), (.ret (some (.cmp .eq (.call 2 [(.ix (.var 0) (.cst (.int 0))), (.ix (.var 0) (.cst (.int 1)))]) (.cst (.int 1)))))]
noncomputable def g_is_fraction (Φ : Fns) (ds : List D) : M D := runB (denSs Φ fuel p_is_fraction) 1 ds
/-- 5 -/
def p_add : List S := [(.ret (some (.call 3 [(.bin .add (.bin .mul (.ix (.var 0) (.cst (.int 0))) (.ix (.var 1) (.cst (.int 1)))) (.bin .mul (.ix (.var 1) (.cst (.int 0))) (.ix (.var 0) (.cst (.int 1))))), (.bin .mul (.ix (.var 0) (.cst (.int 1))) (.ix (.var 1) (.cst (.int 1))))])))]
noncomputable def g_add (Φ : Fns) (ds : List D) : M D := runB (denSs Φ fuel p_add) 2 ds
/-- 9 -/
def p_is_below : List S := [(.ret (some (.cmp .lt (.bin .mul (.ix (.var 0) (.cst (.int 0))) (.ix (.var 1) (.cst (.int 1)))) (.bin .mul (.ix (.var 1) (.cst (.int 0))) (.ix (.var 0) (.cst (.int 1)))))))]
noncomputable def g_is_below (Φ : Fns) (ds : List D) : M D := runB (denSs Φ fuel p_is_below) 2 ds
/-- 10 -/
def p_lesser : List S := [(.ret (some (.ite (.call 9 [(.var 1), (.var 0)]) (.var 1) (.var 0))))]
noncomputable def g_lesser (Φ : Fns) (ds : List D) : M D := runB (denSs Φ fuel p_lesser) 2 ds
/-- 11 -/
def p_greater : List S := [(.ret (some (.ite (.call 9 [(.var 0), (.var 1)]) (.var 1) (.var 0))))]
noncomputable def g_greater (Φ : Fns) (ds : List D) : M D := runB (denSs Φ fuel p_greater) 2 ds
/-- 12 -/
def p_half : List S := [(.ret (some (.call 3 [(.ix (.var 0) (.cst (.int 0))), (.bin .mul (.cst (.int 2)) (.ix (.var 0) (.cst (.int 1))))])))]
noncomputable def g_half (Φ : Fns) (ds : List D) : M D := runB (denSs Φ fuel p_half) 1 ds
/-- 13 -/
def p_least : List S := [(.asg (.nm 1) (.ix (.var 0) (.cst (.int 0)))), (.forr (.nm 2) .seq [(.cut (.var 0) (some (.cst (.int 1))) none)] [(.asg (.nm 1) (.call 10 [(.var 1), (.var 2)]))]), (.ret (some (.var 1)))]
noncomputable def g_least (Φ : Fns) (ds : List D) : M D := runB (denSs Φ fuel p_least) 3 ds
/-- 14 -/
def p_greatest : List S := [(.asg (.nm 1) (.ix (.var 0) (.cst (.int 0)))), (.forr (.nm 2) .seq [(.cut (.var 0) (some (.cst (.int 1))) none)] [(.asg (.nm 1) (.call 11 [(.var 1), (.var 2)]))]), (.ret (some (.var 1)))]
noncomputable def g_greatest (Φ : Fns) (ds : List D) : M D := runB (denSs Φ fuel p_greatest) 3 ds
/-- 15 -/
def p_is_within : List S := [(.ret (some (.and [(.call 4 [(.var 0)]), (.not (.call 9 [(.var 0), (.var 1)])), (.not (.call 9 [(.var 2), (.var 0)]))])))]
noncomputable def g_is_within (Φ : Fns) (ds : List D) : M D := runB (denSs Φ fuel p_is_within) 3 ds
/-- 16 -/
def p_is_share : List S := [(.ret (some (.call 15 [(.var 0), (.gl 0), (.gl 1)])))]
noncomputable def g_is_share (Φ : Fns) (ds : List D) : M D := runB (denSs Φ fuel p_is_share) 1 ds
/-- 17 -/
def p_is_letter : List S := [(.ret (some (.and [(.isi (.var 0) .str), (.cmp .eq (.bi .len [(.var 0)]) (.cst (.int 1))), (.cmp .inn (.var 0) (.gl 7))])))]
noncomputable def g_is_letter (Φ : Fns) (ds : List D) : M D := runB (denSs Φ fuel p_is_letter) 1 ds
/-- 18 -/
def p_is_part : List S := [(.ret (some (.and [(.call 16 [(.var 0)]), (.cmp .le (.ix (.var 0) (.cst (.int 1))) (.gl 4))])))]
noncomputable def g_is_part (Φ : Fns) (ds : List D) : M D := runB (denSs Φ fuel p_is_part) 1 ds
/-- 19 -/
def p_is_ascending : List S := [(.ret (some (.bi .all [(.comp (.cmp .lt (.ix (.var 0) (.var 1)) (.ix (.var 0) (.bin .add (.var 1) (.cst (.int 1))))) (.nm 1) .range1 [(.bin .sub (.bi .len [(.var 0)]) (.cst (.int 1)))] [] [1])])))]
noncomputable def g_is_ascending (Φ : Fns) (ds : List D) : M D := runB (denSs Φ fuel p_is_ascending) 2 ds
/-- 20 -/
def p_are_arrows : List S := [(.iff (.or [(.not (.isi (.var 0) .tuple)), (.cmp .eq (.bi .len [(.var 0)]) (.cst (.int 0))), (.not (.bi .all [(.comp (.call 17 [(.var 1)]) (.nm 1) .seq [(.var 0)] [] [1])]))]) [(.ret (some (.cst (.bl false))))] []), (.ret (some (.call 19 [(.var 0)])))]
noncomputable def g_are_arrows (Φ : Fns) (ds : List D) : M D := runB (denSs Φ fuel p_are_arrows) 2 ds
/-- 21 -/
def p_is_end : List S := [(.ret (some (.isi (.ix (.var 0) (.cst (.int 0))) .int)))]
noncomputable def g_is_end (Φ : Fns) (ds : List D) : M D := runB (denSs Φ fuel p_is_end) 1 ds
/-- 22 -/
def p_is_pair : List S := [(.iff (.or [(.not (.isi (.var 0) .tuple)), (.cmp .ne (.bi .len [(.var 0)]) (.cst (.int 2))), (.not (.call 17 [(.ix (.var 0) (.cst (.int 0)))]))]) [(.ret (some (.cst (.bl false))))] []), (.ret (some (.or [(.call 18 [(.ix (.var 0) (.cst (.int 1)))]), (.call 20 [(.ix (.var 0) (.cst (.int 1)))])])))]
noncomputable def g_is_pair (Φ : Fns) (ds : List D) : M D := runB (denSs Φ fuel p_is_pair) 1 ds
/-- 23 -/
def p_lost_places : List S := [(.asg (.nm 1) (.comp (.var 3) (.tup [(.nm 3), (.nm 4)]) .seq [(.var 0)] [(.call 21 [(.var 4)])] [3, 4])), (.forr (.nm 2) .range1 [(.bi .len [(.var 0)])] [(.forr (.tup [(.nm 3), (.nm 4)]) .seq [(.var 0)] [(.iff (.and [(.cmp .nin (.var 3) (.var 1)), (.bi .any [(.comp (.cmp .inn (.var 5) (.var 1)) (.nm 5) .seq [(.var 4)] [] [5])])]) [(.app 1 (.var 3))] [])])]), (.ret (some (.comp (.var 3) (.tup [(.nm 3), (.nm 4)]) .seq [(.var 0)] [(.cmp .nin (.var 3) (.var 1))] [3, 4])))]
noncomputable def g_lost_places (Φ : Fns) (ds : List D) : M D := runB (denSs Φ fuel p_lost_places) 6 ds
/-- 24 -/
def p_are_rows : List S := [(.iff (.or [(.not (.isi (.var 0) .tuple)), (.not (.chain .le .le (.cst (.int 1)) (.bi .len [(.var 0)]) (.gl 2))), (.not (.bi .all [(.comp (.call 22 [(.var 4)]) (.nm 4) .seq [(.var 0)] [] [4])]))]) [(.ret (some (.cst (.bl false))))] []), (.asg (.nm 1) (.comp (.var 2) (.tup [(.nm 2), (.nm 3)]) .seq [(.var 0)] [] [2, 3])), (.iff (.not (.call 19 [(.var 1)])) [(.ret (some (.cst (.bl false))))] []), (.forr (.tup [(.nm 2), (.nm 3)]) .seq [(.var 0)] [(.iff (.and [(.not (.call 21 [(.var 3)])), (.bi .any [(.comp (.cmp .nin (.var 5) (.var 1)) (.nm 5) .seq [(.var 3)] [] [5])])]) [(.ret (some (.cst (.bl false))))] [])]), (.ret (some (.cmp .eq (.bi .len [(.call 23 [(.var 0)])]) (.cst (.int 0)))))]
noncomputable def g_are_rows (Φ : Fns) (ds : List D) : M D := runB (denSs Φ fuel p_are_rows) 6 ds
/-- 25 -/
def p_text_of : List S := [(.asg (.nm 1) (.lst [])), (.forr (.tup [(.nm 2), (.nm 3)]) .seq [(.var 0)] [(.app 1 (.ite (.call 21 [(.var 3)]) (.fstr [(.var 2), (.cst (.str " = ")), (.ix (.var 3) (.cst (.int 0))), (.cst (.str "/")), (.ix (.var 3) (.cst (.int 1)))]) (.bin .add (.fstr [(.var 2), (.cst (.str ": "))]) (.meth .join (.cst (.str " ")) [(.var 3)]))))]), (.ret (some (.meth .join (.cst (.str "\n")) [(.var 1)])))]
noncomputable def g_text_of (Φ : Fns) (ds : List D) : M D := runB (denSs Φ fuel p_text_of) 4 ds
/-- 30 -/
def p_check_web : List S := [(.iff (.not (.isi (.var 0) (.cls 0))) [.never] [])]
noncomputable def g_check_web (Φ : Fns) (ds : List D) : M D := runB (denSs Φ fuel p_check_web) 1 ds
/-- 38 -/
def p_ends_in : List S := [(.ret (some (.bi .dict [(.comp (.tup [(.var 1), (.var 2)]) (.tup [(.nm 1), (.nm 2)]) .seq [(.var 0)] [(.call 21 [(.var 2)])] [1, 2])])))]
noncomputable def g_ends_in (Φ : Fns) (ds : List D) : M D := runN (denSs Φ fuel p_ends_in) 3 ds
/-- 48 -/
def p_ends_of : List S := [(.asg (.nm 2) (.comp (.ix (.var 1) (.var 3)) (.nm 3) .seq [(.var 0)] [] [3])), (.ret (some (.tup [(.call 13 [(.var 2)]), (.call 14 [(.var 2)])])))]
noncomputable def g_ends_of (Φ : Fns) (ds : List D) : M D := runB (denSs Φ fuel p_ends_of) 4 ds
/-- 55 -/
def p_halved : List S := [(.asg (.tup [(.nm 2), (.nm 3)]) (.call 48 [(.var 0), (.var 1)])), (.ret (some (.call 12 [(.call 5 [(.var 2), (.var 3)])])))]
noncomputable def g_halved (Φ : Fns) (ds : List D) : M D := runB (denSs Φ fuel p_halved) 4 ds
/-- 56 -/
def p_check_moves : List S := [(.iff (.not (.call 0 [(.var 0), (.cst (.int 0)), (.gl 3)])) [.never] [])]
noncomputable def g_check_moves (Φ : Fns) (ds : List D) : M D := runB (denSs Φ fuel p_check_moves) 1 ds
/-- 57 -/
def p_begun : List S := [(.asg (.nm 2) (.call 38 [(.var 0)])), (.forr (.tup [(.nm 3), (.nm 4)]) .seq [(.var 0)] [(.iff (.not (.call 21 [(.var 4)])) [(.setIx 2 (.var 3) (.var 1))] [])]), (.ret (some (.var 2)))]
noncomputable def g_begun (Φ : Fns) (ds : List D) : M D := runB (denSs Φ fuel p_begun) 5 ds
/-- 58 -/
def p_moved : List S := [(.ret (some (.bi .dict [(.comp (.tup [(.var 2), (.ite (.call 21 [(.var 3)]) (.var 3) (.call 55 [(.var 3), (.var 1)]))]) (.tup [(.nm 2), (.nm 3)]) .seq [(.var 0)] [] [2, 3])])))]
noncomputable def g_moved (Φ : Fns) (ds : List D) : M D := runB (denSs Φ fuel p_moved) 4 ds
/-- 59 -/
def p_numbers_within : List S := [(.asg (.nm 3) (.call 57 [(.var 0), (.var 2)])), (.forr (.nm 4) .range1 [(.var 1)] [(.asg (.nm 3) (.call 58 [(.var 0), (.var 3)]))]), (.ret (some (.var 3)))]
noncomputable def g_numbers_within (Φ : Fns) (ds : List D) : M D := runB (denSs Φ fuel p_numbers_within) 5 ds
/-- 60 -/
def p_need_within : List S := [(.ex (.call 30 [(.var 0)])), (.ex (.mth 0 "check_place" 506 (.var 0) [(.var 1)])), (.ex (.call 56 [(.var 2)])), (.ret (some (.ix (.call 59 [(.prop 0 502 (.var 0)), (.var 2), (.gl 1)]) (.var 1))))]
noncomputable def g_need_within (Φ : Fns) (ds : List D) : M D := runB (denSs Φ fuel p_need_within) 3 ds
/-- 61 -/
def p_hold_within : List S := [(.ex (.call 30 [(.var 0)])), (.ex (.mth 0 "check_place" 506 (.var 0) [(.var 1)])), (.ex (.call 56 [(.var 2)])), (.ret (some (.ix (.call 59 [(.prop 0 502 (.var 0)), (.var 2), (.gl 0)]) (.var 1))))]
noncomputable def g_hold_within (Φ : Fns) (ds : List D) : M D := runB (denSs Φ fuel p_hold_within) 3 ds
/-- 500 -/
def p_Web___init__ : List S := [(.iff (.not (.call 24 [(.var 1)])) [.never] []), (.setF 0 0 "all_rows" (.var 1)), (.setF 0 0 "words" (.call 25 [(.var 1)])), (.setF 0 0 "by_place" (.bi .dict [(.var 1)]))]
noncomputable def g_Web___init__ (Φ : Fns) (ds : List D) : M D := runB (denSs Φ fuel p_Web___init__) 2 ds
/-- 502 -/
def p_Web_rows : List S := [(.ret (some (.fld 0 (.var 0) "all_rows")))]
noncomputable def g_Web_rows (Φ : Fns) (ds : List D) : M D := runB (denSs Φ fuel p_Web_rows) 1 ds
/-- 506 -/
def p_Web_check_place : List S := [(.iff (.or [(.not (.isi (.var 1) .str)), (.cmp .nin (.var 1) (.fld 0 (.var 0) "by_place"))]) [.never] [])]
noncomputable def g_Web_check_place (Φ : Fns) (ds : List D) : M D := runB (denSs Φ fuel p_Web_check_place) 2 ds
end RF
end
section
set_option linter.all false
set_option maxRecDepth 100000
set_option maxHeartbeats 4000000
set_option autoImplicit false
/-! RfRun: how terms run, rule by rule, at a given store (so that nothing below a binder is touched). -/
namespace RF
open PySem (Str)
noncomputable def cF (Φ : Fns) (c : X) : En → M Bool := fun δ => do asB (← denX Φ c δ)
noncomputable def bF (Φ : Fns) (N : Nat) (b : List S) : En → M Fl := fun δ => denSs Φ N b δ
noncomputable def fF (Φ : Fns) (N : Nat) (t : Tg) (b : List S) : D → En → M Fl := fun d δ' => do
  let δ'' ← M.ofO (bindT t d δ')
  denSs Φ N b δ''
noncomputable def kF (Φ : Fns) (tg : Tg) (ifs : List X) (e : X) (own : List Nat) (δ : En) : D → M (Option D) := fun d => do
  let δ' ← M.ofO (bindT tg d (wipe δ own))
  if ← denAnd Φ ifs δ' then do pure (some (← denX Φ e δ')) else pure none
/-- go on -/
def Out.go {α β : Type} (x : Out α) (k : α → M β) : Out β := match x with
  | .ok a s => k a s
  | .exc e s => .exc e s
  | .no => .no
section
variable {α β : Type} {Φ : Fns} {N : Nat} {δ δ' : En} {s s' : Sto} {k : α → M β} {a b c e x : X} {l as es : List X} {d : D} {i j n f : Nat}
@[simp] theorem go_ok {a : α} : (Out.ok a s).go k = k a s := by first | (simp only [Out.go]; done) | (simp only [Out.nxt, Out.ret, Out.retN, Out.go]; done)
@[simp] theorem go_exc : (Out.exc d s : Out α).go k = .exc d s := by first | (simp only [Out.go]; done) | (simp only [Out.nxt, Out.ret, Out.retN, Out.go]; done)
@[simp] theorem go_no : (Out.no : Out α).go k = .no := by first | (simp only [Out.go]; done) | (simp only [Out.nxt, Out.ret, Out.retN, Out.go]; done)
theorem bind_go {m : M α} : (m >>= k) s = (m s).go k := by rw [M.bind_run]; cases m s <;> rfl
@[simp] theorem pure_run2 {a : α} : (Pure.pure a : M α) s = .ok a s := rfl
@[simp] theorem ofO_some {a : α} : M.ofO (some a) s = .ok a s := rfl
@[simp] theorem ofO_none : (M.ofO (none : Option α)) s = .no := rfl
/-- a bool -/
def Out.bool (x : Out D) : Out Bool := x.go asB
@[simp] theorem asB_bl {b : Bool} : asB (.bl b) s = .ok b s := rfl
@[simp] theorem bool_bl {b : Bool} : (Out.ok (.bl b) s).bool = .ok b s := rfl
@[simp] theorem bool_no : (Out.no : Out D).bool = .no := rfl
@[simp] theorem getV_run : getV δ i s = (match δ[i]? with
  | some (some d) => .ok d s
  | _ => .no) := by
  unfold getV
  split <;> simp_all
/-! expressions -/
@[simp] theorem r_var : denX Φ (.var i) δ s = getV δ i s := rfl
@[simp] theorem r_cst : denX Φ (.cst d) δ s = .ok d s := rfl
@[simp] theorem r_gl : denX Φ (.gl i) δ s = .ok (Φ.gl i) s := rfl
@[simp] theorem r_call : denX Φ (.call f as) δ s = (denXs Φ as δ s).go (Φ.fn f) := bind_go
@[simp] theorem r_callK {ks : List X} {pm : List Nat} : denX Φ (.callK f as ks pm) δ s = (denXs Φ as δ s).go fun a s => (denXs Φ ks δ s).go fun c s => Φ.fn f (permD pm (a ++ c)) s := by
  rfl
@[simp] theorem r_bi {B : Bi} : denX Φ (.bi B as) δ s = (denXs Φ as δ s).go (biD B) := bind_go
@[simp] theorem r_bin {op : Bop} : denX Φ (.bin op a b) δ s = (denX Φ a δ s).go fun x s => (denX Φ b δ s).go (binD op x) := by
  rfl
@[simp] theorem r_addN : denX Φ (.addN a b) δ s = (denX Φ a δ s).go fun x s => (denX Φ b δ s).go (addNF x) := by
  rfl
@[simp] theorem r_mulN : denX Φ (.mulN a b) δ s = (denX Φ a δ s).go fun x s => (denX Φ b δ s).go (mulNF x) := by
  rfl
def negF : D → M D
  | .int i => pure (.int (-i))
  | _ => M.no
@[simp] theorem negF_int {i : Int} : negF (.int i) s = .ok (.int (-i)) s := rfl
@[simp] theorem r_neg : denX Φ (.neg a) δ s = (denX Φ a δ s).go negF := by
  refine bind_go.trans (congrArg (Out.go _) (funext fun x => funext fun s => ?_))
  cases x <;> rfl
@[simp] theorem r_cmp {op : Cop} : denX Φ (.cmp op a b) δ s = (denX Φ a δ s).go fun x s => (denX Φ b δ s).go (cmpD op x) := by
  rfl
@[simp] theorem r_chain {op op' : Cop} : denX Φ (.chain op op' a b c) δ s = (denX Φ a δ s).go fun x s => (denX Φ b δ s).go fun y s => (cmpD op x y s).bool.go fun k s => if k = true then (denX Φ c δ s).go (cmpD op' y) else .ok (.bl false) s := by
  refine (show _ = ((denX Φ a δ s).go fun x s => (denX Φ b δ s).go fun y s => (cmpD op x y s).go fun z s => (asB z s).go fun k s => (if k = true then denX Φ c δ >>= fun z => cmpD op' y z else pure (D.bl false) : M D) s) from rfl).trans ?_
  congr 1
  funext x s
  congr 1
  funext y s
  unfold Out.bool
  cases cmpD op x y s with
  | ok z s =>
    simp only [go_ok]
    cases asB z s with
    | ok k s => cases k <;> rfl
    | exc _ _ => rfl
    | no => rfl
  | exc _ _ => rfl
  | no => rfl
@[simp] theorem r_and : denX Φ (.and l) δ s = (denAnd Φ l δ s).go fun b s => .ok (.bl b) s := by
  rfl
@[simp] theorem r_or : denX Φ (.or l) δ s = (denOr Φ l δ s).go fun b s => .ok (.bl b) s := by
  rfl
@[simp] theorem r_not : denX Φ (.not a) δ s = (denX Φ a δ s).bool.go fun b s => .ok (.bl (!b)) s := by
  refine (show _ = ((denX Φ a δ s).go fun x s => (asB x s).go fun k s => (Out.ok (D.bl (!k)) s : Out D)) from rfl).trans ?_
  unfold Out.bool
  cases denX Φ a δ s <;> rfl
@[simp] theorem r_ite : denX Φ (.ite c a b) δ s = (denX Φ c δ s).bool.go fun k s => if k = true then denX Φ a δ s else denX Φ b δ s := by
  refine (show _ = ((denX Φ c δ s).go fun x s => (asB x s).go fun k s => (if k = true then denX Φ a δ else denX Φ b δ : M _) s) from rfl).trans ?_
  unfold Out.bool
  cases denX Φ c δ s with
  | ok z s =>
    simp only [go_ok]
    cases asB z s with
    | ok k s => cases k <;> rfl
    | exc _ _ => rfl
    | no => rfl
  | exc _ _ => rfl
  | no => rfl
@[simp] theorem r_tup : denX Φ (.tup l) δ s = (denXs Φ l δ s).go fun ds s => if ds.length ≤ 1000 then .ok (.tup ds) s else .no := by
  refine bind_go.trans (congrArg (Out.go _) (funext fun ds => funext fun s => ?_))
  show (if _ then _ else _ : M _) s = _
  split <;> rfl
@[simp] theorem r_lst : denX Φ (.lst l) δ s = (denXs Φ l δ s).go fun ds s => if ds.length ≤ 1000 then .ok (.lst ds) s else .no := by
  refine bind_go.trans (congrArg (Out.go _) (funext fun ds => funext fun s => ?_))
  show (if _ then _ else _ : M _) s = _
  split <;> rfl
def ixF (x y : D) : M D := fun s => match ixD s x y with
  | some v => .ok v s
  | none => .no
@[simp] theorem r_ix : denX Φ (.ix a b) δ s = (denX Φ a δ s).go fun x s => (denX Φ b δ s).go (ixF x) := by
  rfl
@[simp] theorem r_cut {lo hi : Option X} : denX Φ (.cut a lo hi) δ s = (denX Φ a δ s).go fun x s => (denO Φ lo δ s).go fun l s => (denO Φ hi δ s).go fun h s => M.ofO (cutD x l h) s := by
  rfl
@[simp] theorem r_cutN {lo hi : Option X} : denX Φ (.cutN a lo hi) δ s = (denX Φ a δ s).go fun x s => (denO Φ lo δ s).go fun l s => (denO Φ hi δ s).go fun h s => cutNF x l h s := by
  rfl
@[simp] theorem r_comp {tg : Tg} {kk : ItK} {it ifs : List X} {own : List Nat} : denX Φ (.comp e tg kk it ifs own) δ s = (denXs Φ it δ s).go fun ds s => (M.ofO (itemsOf kk ds) s).go fun items s => (compL (kF Φ tg ifs e own δ) items s).go fun l s => if items.length < line then .ok (.lst l) s else .no := by
  refine (show _ = ((denXs Φ it δ s).go fun ds s => (M.ofO (itemsOf kk ds) s).go fun items s => (compL (kF Φ tg ifs e own δ) items s).go fun l s => (if items.length < line then pure (D.lst l) else M.no : M D) s) from rfl).trans ?_
  congr 1
  funext ds s
  congr 1
  funext items s
  congr 1
  funext l s
  split <;> rfl
def isiF (n : Nat) (t : Ty) (x : D) : M D := fun s => match isD n s t x with
  | some b => .ok (.bl b) s
  | none => .no
@[simp] theorem r_isi {t : Ty} : denX Φ (.isi a t) δ s = (denX Φ a δ s).go (isiF Φ.nc t) := bind_go
@[simp] theorem r_fld {c0 : Nat} {nm : Str} : denX Φ (.fld c0 a nm) δ s = (denX Φ a δ s).go (fldF c0 nm) := bind_go
@[simp] theorem r_prop {c0 f0 : Nat} : denX Φ (.prop c0 f0 a) δ s = (denX Φ a δ s).go (propF (Φ.fn f0) c0) := bind_go
@[simp] theorem r_mth {c0 f0 : Nat} {nm : Str} : denX Φ (.mth c0 nm f0 a as) δ s = (denX Φ a δ s).go fun x s => (mthC c0 nm x s).go fun _ s => (denXs Φ as δ s).go fun ds s => Φ.fn f0 (x :: ds) s := rfl
@[simp] theorem r_newV {c0 f0 : Nat} : denX Φ (.newV c0 f0 as) δ s = (denXs Φ as δ s).go (newF (Φ.fn f0) c0) := bind_go
@[simp] theorem r_meth {m0 : Mt} : denX Φ (.meth m0 a as) δ s = (denX Φ a δ s).go fun x s => (denXs Φ as δ s).go (mtD m0 x) := rfl
@[simp] theorem r_fstr : denX Φ (.fstr l) δ s = (denXs Φ l δ s).go fun ds s => match fmtsD ds with
    | some xs => if (joinS xs).length ≤ line then .ok (.str (joinS xs)) s else .no
    | none => .no := by
  refine bind_go.trans (congrArg (Out.go _) (funext fun ds => funext fun s => ?_))
  cases fmtsD ds with
  | none => rfl
  | some xs =>
    by_cases z : (joinS xs).length ≤ line
    · simp only [if_pos z]; rfl
    · simp only [if_neg z]; rfl
@[simp] theorem r_srt : denX Φ (.srt a) δ s = (denX Φ a δ s).go srtF := rfl
@[simp] theorem r_dnew : denX Φ .dnew δ s = .ok (.dct []) s := rfl
@[simp] theorem r_inG {no : Bool} : denX Φ (.inG i no a) δ s = (denX Φ a δ s).go (inGF (Φ.tb i) no) := bind_go
@[simp] theorem r_ixG : denX Φ (.ixG i a) δ s = (denX Φ a δ s).go (ixGF (Φ.tb i)) := bind_go
@[simp] theorem r_mkx : denX Φ (.mkx a) δ s = (denX Φ a δ s).go fun d s => .ok (.obj s.length) (s ++ [d]) := bind_go
@[simp] theorem r_vim : denX Φ (.vim i) δ s = (getV δ i s).go fun d s => if d.imm = true then .ok d s else .no := by
  refine bind_go.trans (congrArg (Out.go _) (funext fun ds => funext fun s => ?_))
  show (if _ then _ else _ : M _) s = _
  split <;> rfl
@[simp] theorem rs_nil : denXs Φ [] δ s = .ok [] s := rfl
@[simp] theorem rs_cons : denXs Φ (a :: l) δ s = (denX Φ a δ s).go fun x s => (denXs Φ l δ s).go fun ds s => .ok (x :: ds) s := by
  rfl
@[simp] theorem and_nil : denAnd Φ [] δ s = .ok true s := rfl
@[simp] theorem and_cons : denAnd Φ (a :: l) δ s = (denX Φ a δ s).bool.go fun k s => if k = true then denAnd Φ l δ s else .ok false s := by
  refine (show _ = ((denX Φ a δ s).go fun x s => (asB x s).go fun k s => (if k = true then denAnd Φ l δ else pure false : M _) s) from rfl).trans ?_
  unfold Out.bool
  cases denX Φ a δ s with
  | ok z s =>
    simp only [go_ok]
    cases asB z s with
    | ok k s => cases k <;> rfl
    | exc _ _ => rfl
    | no => rfl
  | exc _ _ => rfl
  | no => rfl
@[simp] theorem or_nil : denOr Φ [] δ s = .ok false s := rfl
@[simp] theorem or_cons : denOr Φ (a :: l) δ s = (denX Φ a δ s).bool.go fun k s => if k = true then .ok true s else denOr Φ l δ s := by
  refine (show _ = ((denX Φ a δ s).go fun x s => (asB x s).go fun k s => (if k = true then pure true else denOr Φ l δ : M _) s) from rfl).trans ?_
  unfold Out.bool
  cases denX Φ a δ s with
  | ok z s =>
    simp only [go_ok]
    cases asB z s with
    | ok k s => cases k <;> rfl
    | exc _ _ => rfl
    | no => rfl
  | exc _ _ => rfl
  | no => rfl
def intF : D → M (Option Int)
  | .int i => pure (some i)
  | _ => M.no
@[simp] theorem intF_int {i : Int} : intF (.int i) s = .ok (some i) s := rfl
@[simp] theorem o_none : denO Φ none δ s = .ok none s := rfl
@[simp] theorem o_some : denO Φ (some a) δ s = (denX Φ a δ s).go intF := by
  refine bind_go.trans (congrArg (Out.go _) (funext fun x => funext fun s => ?_))
  cases x <;> rfl
/-! statements -/
/-- the next statement -/
def Out.nxt (x : Out Fl) (k : En → M Fl) : Out Fl := x.go fun fl s => match fl with
  | .nx δ => k δ s
  | .bk δ => .ok (.bk δ) s
  | .rt v => .ok (.rt v) s
variable {k' : En → M Fl} {v : D} {t : Tg} {st : S} {sl : List S}
@[simp] theorem nxt_nx : (Out.ok (Fl.nx δ) s).nxt k' = k' δ s := by first | (simp only [Out.go]; done) | (simp only [Out.nxt, Out.go]; done)
@[simp] theorem nxt_bk : (Out.ok (Fl.bk δ) s).nxt k' = .ok (.bk δ) s := by first | (simp only [Out.go]; done) | (simp only [Out.nxt, Out.go]; done)
@[simp] theorem nxt_rt : (Out.ok (Fl.rt v) s).nxt k' = .ok (.rt v) s := by first | (simp only [Out.go]; done) | (simp only [Out.nxt, Out.go]; done)
@[simp] theorem nxt_no : (Out.no : Out Fl).nxt k' = .no := by first | (simp only [Out.go]; done) | (simp only [Out.nxt, Out.go]; done)
@[simp] theorem ss_nil : denSs Φ N [] δ s = .ok (.nx δ) s := rfl
@[simp] theorem ss_cons : denSs Φ N (st :: sl) δ s = (denS Φ N st δ s).nxt (denSs Φ N sl) := by
  refine bind_go.trans (congrArg (Out.go _) (funext fun x => funext fun s => ?_))
  cases x <;> rfl
@[simp] theorem s_asg : denS Φ N (.asg t e) δ s = (denX Φ e δ s).go fun d s => (M.ofO (bindT t d δ) s).go fun δ' s => .ok (.nx δ') s := by
  rfl
@[simp] theorem s_asgI : denS Φ N (.asgI i e) δ s = (denX Φ e δ s).go fun d s => if d.imm = true then (M.ofO (bindT (.nm i) d δ) s).go fun δ' s => .ok (.nx δ') s else .no := by
  refine (show _ = ((denX Φ e δ s).go fun d s => (if d.imm = true then M.ofO (bindT (.nm i) d δ) >>= fun δ' => pure (Fl.nx δ') else M.no : M Fl) s) from rfl).trans ?_
  congr 1
  funext d s
  split <;> rfl
@[simp] theorem s_mov {j : Nat} : denS Φ N (.mov j i) δ s = (getV δ i s).go fun d s => if d.imm = true then .no else (M.ofO (bindT (.nm j) d (δ.set i none)) s).go fun δ' s => .ok (.nx δ') s := by
  refine (show _ = ((getV δ i s).go fun d s => (if d.imm = true then M.no else M.ofO (bindT (.nm j) d (δ.set i none)) >>= fun δ' => pure (Fl.nx δ') : M Fl) s) from rfl).trans ?_
  congr 1
  funext d s
  split <;> rfl
@[simp] theorem s_par {is : List Nat} : denS Φ N (.par is es) δ s = (denXs Φ es δ s).go fun ds s => (M.ofO (setMany is ds δ) s).go fun δ' s => .ok (.nx δ') s := by
  rfl
@[simp] theorem s_setIx : denS Φ N (.setIx i x e) δ s = (denX Φ e δ s).go fun v s => (getV δ i s).go fun o s => (denX Φ x δ s).go fun q s => setIxF i o q v δ s := by
  rfl
@[simp] theorem s_setOb : denS Φ N (.setOb i x e) δ s = (denX Φ e δ s).go fun v s => (getV δ i s).go fun o s => (denX Φ x δ s).go fun q s => setObF o q v δ s := by
  rfl
@[simp] theorem s_setF {c0 : Nat} {nm : Str} : denS Φ N (.setF i c0 nm e) δ s = (denX Φ e δ s).go fun v s => (getV δ i s).go fun o s => setFF c0 nm o v δ s := by
  rfl
@[simp] theorem s_ex : denS Φ N (.ex e) δ s = (denX Φ e δ s).go fun _ s => .ok (.nx δ) s := bind_go
@[simp] theorem s_app : denS Φ N (.app i e) δ s = (getV δ i s).go fun o s => (denX Φ e δ s).go fun v s => appF i o v δ s := by
  rfl
@[simp] theorem s_iff {sa sb : List S} : denS Φ N (.iff c sa sb) δ s = (denX Φ c δ s).bool.go fun k s => if k = true then denSs Φ N sa δ s else denSs Φ N sb δ s := by
  refine (show _ = ((denX Φ c δ s).go fun x s => (asB x s).go fun k s => (if k = true then denSs Φ N sa δ else denSs Φ N sb δ : M _) s) from rfl).trans ?_
  unfold Out.bool
  cases denX Φ c δ s with
  | ok z s =>
    simp only [go_ok]
    cases asB z s with
    | ok k s => cases k <;> rfl
    | exc _ _ => rfl
    | no => rfl
  | exc _ _ => rfl
  | no => rfl
@[simp] theorem s_for {kk : ItK} {it : List X} {body : List S} : denS Φ N (.forr t kk it body) δ s = (denXs Φ it δ s).go fun ds s => (M.ofO (itemsOf kk ds) s).go fun items s => forL (fF Φ N t body) items δ s := by
  rfl
@[simp] theorem s_whl {body : List S} : denS Φ N (.whl c body) δ s = whlL (cF Φ c) (bF Φ N body) N δ s := rfl
@[simp] theorem s_ret : denS Φ N (.ret (some e)) δ s = (denX Φ e δ s).go fun d s => .ok (.rt d) s := bind_go
@[simp] theorem s_retN : denS Φ N (.ret none) δ s = .ok (.rt .non) s := rfl
@[simp] theorem s_retO : denS Φ N (.retO i) δ s = (getV δ i s).go fun d s => if d.imm = true then .no else .ok (.rt d) s := by
  refine bind_go.trans (congrArg (Out.go _) (funext fun ds => funext fun s => ?_))
  show (if _ then _ else _ : M _) s = _
  split <;> rfl
@[simp] theorem s_never : denS Φ N .never δ s = .no := rfl
@[simp] theorem s_pass : denS Φ N .pass δ s = .ok (.nx δ) s := rfl
@[simp] theorem s_brk : denS Φ N .brk δ s = .ok (.bk δ) s := rfl
/-! loops -/
variable {items : List D} {g : D → En → M Fl} {h : D → M (Option D)}
@[simp] theorem for_nil : forL g [] δ s = .ok (.nx δ) s := rfl
theorem for_cons : forL g (d :: items) δ s = (g d δ s).go fun fl s => match fl with
    | .nx δ' => forL g items δ' s
    | .bk δ' => .ok (.nx δ') s
    | .rt v => .ok (.rt v) s := by
  refine bind_go.trans (congrArg (Out.go _) (funext fun x => funext fun s => ?_))
  cases x <;> rfl
@[simp] theorem comp_nil : compL h [] s = .ok [] s := rfl
theorem comp_cons : compL h (d :: items) s = (h d s).go fun o s => (compL h items s).go fun l s => .ok (match o with
    | some v => v :: l
    | none => l) s := by
  rfl
theorem whl_step {cc : En → M Bool} {ff : En → M Fl} : whlL cc ff (n + 1) δ s = (cc δ s).go fun k s => if k = true then (ff δ s).go fun fl s => (match fl with
    | .nx δ' => whlL cc ff n δ' s
    | .bk δ' => .ok (.nx δ') s
    | .rt v => .ok (.rt v) s) else .ok (.nx δ) s := by
  refine (show _ = ((cc δ s).go fun k s => (if k = true then ff δ >>= fun fl => (match fl with
    | .nx δ' => whlL cc ff n δ'
    | .bk δ' => pure (.nx δ')
    | .rt v => pure (.rt v)) else pure (Fl.nx δ) : M Fl) s) from rfl).trans ?_
  congr 1
  funext k s
  cases k
  · rfl
  · simp only [if_true]
    refine bind_go.trans (congrArg (Out.go _) (funext fun fl => funext fun s => ?_))
    cases fl <;> rfl
theorem cF_run : cF Φ c δ s = (denX Φ c δ s).bool := bind_go
theorem bF_run : bF Φ N sl δ s = denSs Φ N sl δ s := rfl
theorem fF_run : fF Φ N t sl d δ s = (M.ofO (bindT t d δ) s).go fun δ' s => denSs Φ N sl δ' s := bind_go
theorem kF_run {ifs : List X} {own : List Nat} : kF Φ t ifs e own δ d s = (M.ofO (bindT t d (wipe δ own)) s).go fun δ' s => (denAnd Φ ifs δ' s).go fun k s => if k = true then (denX Φ e δ' s).go fun v s => .ok (some v) s else .ok none s := by
  refine (show _ = ((M.ofO (bindT t d (wipe δ own)) s).go fun δ' s => (denAnd Φ ifs δ' s).go fun k s => (if k = true then denX Φ e δ' >>= fun v => pure (some v) else pure none : M (Option D)) s) from rfl).trans ?_
  congr 1
  funext δ' s
  congr 1
  funext k s
  cases k <;> rfl
/-! a def's body -/
/-- what a body's end is -/
def Out.ret (x : Out Fl) : Out D := x.go fun fl s => match fl with
  | .nx _ => .ok .non s
  | .bk _ => .no
  | .rt d => .ok d s
def Out.retN (x : Out Fl) : Out D := x.go fun fl s => match fl with
  | .nx _ => .no
  | .bk _ => .no
  | .rt d => .ok d s
@[simp] theorem ret_rt : (Out.ok (Fl.rt v) s).ret = .ok v s := by first | (simp only [Out.go]; done) | (simp only [Out.nxt, Out.ret, Out.retN, Out.go]; done)
@[simp] theorem ret_nx : (Out.ok (Fl.nx δ) s).ret = .ok .non s := by first | (simp only [Out.go]; done) | (simp only [Out.nxt, Out.ret, Out.retN, Out.go]; done)
@[simp] theorem ret_no : (Out.no : Out Fl).ret = .no := by first | (simp only [Out.go]; done) | (simp only [Out.nxt, Out.ret, Out.retN, Out.go]; done)
@[simp] theorem retN_rt : (Out.ok (Fl.rt v) s).retN = .ok v s := by first | (simp only [Out.go]; done) | (simp only [Out.nxt, Out.ret, Out.retN, Out.go]; done)
@[simp] theorem retN_no : (Out.no : Out Fl).retN = .no := by first | (simp only [Out.go]; done) | (simp only [Out.nxt, Out.ret, Out.retN, Out.go]; done)
theorem runB_run {F : En → M Fl} {ds : List D} : runB F n ds s = (F (ds.map some ++ List.replicate (n - ds.length) none) s).ret := by
  refine bind_go.trans (congrArg (Out.go _) (funext fun x => funext fun s => ?_))
  cases x <;> rfl
theorem runN_run {F : En → M Fl} {ds : List D} : runN F n ds s = (F (ds.map some ++ List.replicate (n - ds.length) none) s).retN := by
  refine bind_go.trans (congrArg (Out.go _) (funext fun x => funext fun s => ?_))
  cases x <;> rfl
end
end RF
end
section
set_option linter.all false
set_option maxRecDepth 100000
set_option maxHeartbeats 4000000
set_option autoImplicit false
/-! RfRun2: what the operators and builtins give, at values. -/
namespace RF
open PySem (Str)
section
variable {s : Sto} {i j : Int} {x y : Str} {a b : D} {l m : List D} {δ : En}
@[simp] theorem ite_ok {p : Prop} [Decidable p] : (if p then Out.ok true s else Out.ok false s) = Out.ok (decide p) s := by split <;> simp_all
@[simp] theorem b_add : binD .add (.int i) (.int j) s = .ok (.int (i + j)) s := rfl
@[simp] theorem b_sub : binD .sub (.int i) (.int j) s = .ok (.int (i - j)) s := rfl
theorem ite_run {α : Type} {p : Prop} [Decidable p] {m1 m2 : M α} : (if p then m1 else m2) s = if p then m1 s else m2 s := by split <;> rfl
@[simp] theorem b_mul : binD .mul (.int i) (.int j) s = if mulOk i j = true then .ok (.int (i * j)) s else .no := ite_run
@[simp] theorem b_fdiv : binD .fdiv (.int i) (.int j) s = if divOk j = true then .ok (.int (i / j)) s else .no := ite_run
@[simp] theorem b_mod : binD .mod (.int i) (.int j) s = if 0 < j then .ok (.int (i % j)) s else .no := ite_run
@[simp] theorem b_pow : binD .pow (.int i) (.int j) s = if powOk i j = true then .ok (.int (i ^ j.toNat)) s else .no := ite_run
@[simp] theorem b_addS : binD .add (.str x) (.str y) s = if x.length + y.length ≤ line then .ok (.str (x ++ y)) s else .no := ite_run
@[simp] theorem b_addL : binD .add (.lst l) (.lst m) s = if l.length + m.length ≤ line then .ok (.lst (l ++ m)) s else .no := ite_run
@[simp] theorem b_addT : binD .add (.tup l) (.tup m) s = if l.length + m.length ≤ line then .ok (.tup (l ++ m)) s else .no := ite_run
@[simp] theorem n_addL : addNF (.lst l) (.lst m) s = if l.length + m.length ≤ line then .ok (.lst (l ++ m)) s else .no := ite_run
@[simp] theorem c_lt : cmpD .lt (.int i) (.int j) s = .ok (.bl (decide (i < j))) s := rfl
@[simp] theorem c_le : cmpD .le (.int i) (.int j) s = .ok (.bl (decide (i ≤ j))) s := rfl
@[simp] theorem c_gt : cmpD .gt (.int i) (.int j) s = .ok (.bl (decide (j < i))) s := rfl
@[simp] theorem c_ge : cmpD .ge (.int i) (.int j) s = .ok (.bl (decide (j ≤ i))) s := rfl
@[simp] theorem c_eqI : cmpD .eq (.int i) (.int j) s = .ok (.bl (decide (i = j))) s := by
  show Out.ok (D.bl (i == j)) s = _
  rw [show (i == j) = decide (i = j) from rfl]
@[simp] theorem c_neI : cmpD .ne (.int i) (.int j) s = .ok (.bl (!decide (i = j))) s := rfl
@[simp] theorem c_eqS : cmpD .eq (.str x) (.str y) s = .ok (.bl (decide (x = y))) s := rfl
@[simp] theorem c_neS : cmpD .ne (.str x) (.str y) s = .ok (.bl (!decide (x = y))) s := rfl
@[simp] theorem c_isN : cmpD .isN a .non s = .ok (.bl a.isNon) s := by cases a <;> rfl
@[simp] theorem c_notN : cmpD .notN a .non s = .ok (.bl (!a.isNon)) s := by cases a <;> rfl
@[simp] theorem c_eqT : cmpD .eq (.tup l) (.tup m) s = if okEq (.tup l) (.tup m) = true then .ok (.bl (D.eqv (.tup l) (.tup m))) s else .no := ite_run
@[simp] theorem c_neT : cmpD .ne (.tup l) (.tup m) s = if okEq (.tup l) (.tup m) = true then .ok (.bl (!D.eqv (.tup l) (.tup m))) s else .no := ite_run
theorem c_in : cmpD .inn a b s = (match inD s a b with
    | some r => .ok (.bl r) s
    | none => .no) := by cases a <;> cases b <;> rfl
theorem c_nin : cmpD .nin a b s = (match inD s a b with
    | some r => .ok (.bl (!r)) s
    | none => .no) := by cases a <;> cases b <;> rfl
@[simp] theorem isN_int : D.isNon (.int i) = false := rfl
@[simp] theorem isN_tup : D.isNon (.tup l) = false := rfl
@[simp] theorem isN_lst : D.isNon (.lst l) = false := rfl
@[simp] theorem isN_str : D.isNon (.str x) = false := rfl
@[simp] theorem isN_non : D.isNon .non = true := rfl
@[simp] theorem isN_dct {l : List (Ky × D)} : D.isNon (.dct l) = false := rfl
@[simp] theorem f_abs : biD .abs [.int i] s = .ok (.int (if i < 0 then -i else i)) s := rfl
@[simp] theorem f_min : biD .min [.int i, .int j] s = .ok (.int (if j < i then j else i)) s := rfl
@[simp] theorem f_max : biD .max [.int i, .int j] s = .ok (.int (if j > i then j else i)) s := rfl
@[simp] theorem f_int : biD .int [.int i] s = .ok (.int i) s := rfl
@[simp] theorem f_lenT : biD .len [.tup l] s = .ok (.int l.length) s := rfl
@[simp] theorem f_lenL : biD .len [.lst l] s = .ok (.int l.length) s := rfl
@[simp] theorem f_lenF : biD .len [.frz l] s = .ok (.int l.length) s := rfl
@[simp] theorem f_lenD {l : List (Ky × D)} : biD .len [.dct l] s = .ok (.int l.length) s := rfl
@[simp] theorem f_lenS : biD .len [.str x] s = if x.length ≤ line then .ok (.int x.length) s else .no := ite_run
@[simp] theorem f_tupL : biD .tuple [.lst l] s = .ok (.tup l) s := rfl
@[simp] theorem f_tupT : biD .tuple [.tup l] s = .ok (.tup l) s := rfl
@[simp] theorem f_lstT : biD .list [.tup l] s = .ok (.lst l) s := rfl
@[simp] theorem f_lstL : biD .list [.lst l] s = .ok (.lst l) s := rfl
@[simp] theorem f_dctD {l : List (Ky × D)} : biD .dict [.dct l] s = .ok (.dct l) s := rfl
@[simp] theorem f_divmod : biD .divmod [.int i, .int j] s = if 0 < j ∧ j < 1073741824 then .ok (.tup [.int (i / j), .int (i % j)]) s else .no := ite_run
theorem f_all {bs : List Bool} (h : blsOf l = some bs) : biD .all [.lst l] s = .ok (.bl (bs.all id)) s := by
  show (match blsOf l with
    | some bs => (pure (.bl (bs.all id)) : M D)
    | none => M.no) s = _
  rw [h]
  rfl
theorem f_any {bs : List Bool} (h : blsOf l = some bs) : biD .any [.lst l] s = .ok (.bl (bs.any id)) s := by
  show (match blsOf l with
    | some bs => (pure (.bl (bs.any id)) : M D)
    | none => M.no) s = _
  rw [h]
  rfl
theorem ixF_of {v : D} (h : ixD s a b = some v) : ixF a b s = .ok v s := by unfold ixF; rw [h]
@[simp] theorem ixF_T0 : ixF (.tup (a :: l)) (.int 0) s = .ok a s := ixF_of (by simp [ixD, atI, ixOf, show (0 : Int) < (l.length : Int) + 1 by omega])
@[simp] theorem ixF_L0 : ixF (.lst (a :: l)) (.int 0) s = .ok a s := ixF_of (by simp [ixD, atI, ixOf, show (0 : Int) < (l.length : Int) + 1 by omega])
@[simp] theorem ixF_T1 {c : D} : ixF (.tup (a :: c :: l)) (.int 1) s = .ok c s := ixF_of (by simp [ixD, atI, ixOf, show (1 : Int) < (l.length : Int) + 1 + 1 by omega])
@[simp] theorem ixF_L1 {c : D} : ixF (.lst (a :: c :: l)) (.int 1) s = .ok c s := ixF_of (by simp [ixD, atI, ixOf, show (1 : Int) < (l.length : Int) + 1 + 1 by omega])
@[simp] theorem isi_run {n : Nat} {t : Ty} : isiF n t a s = (match isD n s t a with
    | some b => .ok (.bl b) s
    | none => .no) := rfl
@[simp] theorem bT_nm {i : Nat} {d : D} : bindT (.nm i) d δ = if i < δ.length then some (δ.set i (some d)) else none := rfl
@[simp] theorem bT_tup {ts : List Tg} : bindT (.tup ts) (.tup l) δ = bindTs ts l δ := rfl
@[simp] theorem bTs_nil : bindTs [] [] δ = some δ := rfl
@[simp] theorem bTs_cons {t : Tg} {ts : List Tg} {d : D} : bindTs (t :: ts) (d :: l) δ = (bindT t d δ).bind fun δ' => bindTs ts l δ' := rfl
@[simp] theorem sm_nil : setMany [] [] δ = some δ := rfl
@[simp] theorem sm_cons {i : Nat} {is : List Nat} {d : D} : setMany (i :: is) (d :: l) δ = if i < δ.length then setMany is l (δ.set i (some d)) else none := rfl
@[simp] theorem appF_run {i : Nat} {v : D} : appF i (.lst l) v δ s = if l.length < line then .ok (.nx (δ.set i (some (.lst (l ++ [v]))))) s else .no := ite_run
end
end RF
end
section
set_option linter.all false
set_option maxRecDepth 100000
set_option maxHeartbeats 4000000
set_option autoImplicit false
/-! RfFrac: what the functions of fractions compute: fractions are Lean's rationals. -/
namespace RF
open PySem (Str)
/-! ### the greatest common divisor -/
theorem gcd_loop (Φ : Fns) : ∀ (n : Nat) (a b : Nat) (S : Sto), b < n →
    whlL (cF Φ (.cmp .gt (.var 1) (.cst (.int 0)))) (bF Φ fuel [(.par [0, 1] [(.var 1), (.bin .mod (.bi .int [(.var 0)]) (.var 1))])]) n [some (.int a), some (.int b)] S
      = .ok (.nx [some (.int (Nat.gcd a b)), some (.int 0)]) S
  | 0, _, _, _, h => absurd h (Nat.not_lt_zero _)
  | n + 1, a, 0, S, _ => by simp [whl_step, cF_run]
  | n + 1, a, b + 1, S, h => by
    have ih := gcd_loop Φ n (b + 1) (a % (b + 1)) S (Nat.lt_of_lt_of_le (Nat.mod_lt _ (Nat.succ_pos b)) (Nat.le_of_lt_succ h))
    have hp : (0 : Int) < (b : Int) + 1 := by omega
    have e : ((a : Int) % ((b : Int) + 1)) = ((a % (b + 1) : Nat) : Int) := by simp
    have g : Nat.gcd (b + 1) (a % (b + 1)) = Nat.gcd a (b + 1) := by
      rw [Nat.gcd_comm a (b + 1), Nat.gcd_rec (b + 1) a, Nat.gcd_comm]
    rw [g] at ih
    simp [whl_step, cF_run, bF_run, hp]
    simpa using ih
theorem fuel_gt {b : Nat} (h : b < 2 ^ 9000) : b < fuel := Nat.lt_of_lt_of_le h (Nat.pow_le_pow_right (by decide) (by decide))
theorem common_ok (Φ : Fns) (t : Int) (b : Nat) (S : Sto) (h : b < 2 ^ 9000) : g_common Φ [.int t, .int b] S = .ok (.int (Nat.gcd t.natAbs b)) S := by
  have e : (if t < 0 then -t else t) = (t.natAbs : Int) := by split <;> omega
  have := gcd_loop Φ fuel t.natAbs b S (fuel_gt h)
  unfold g_common p_common
  simp [runB_run, e, this]
/-! ### fractions -/
def qd (q : Rat) : D := .tup [.int q.num, .int q.den]
/-- numerator and denominator of at most k bits -/
def sz (k : Nat) (q : Rat) : Prop := q.num.natAbs < 2 ^ k ∧ q.den < 2 ^ k
theorem log_lt {n k : Nat} (h : n < 2 ^ k) (hk : 0 < k) : n.log2 < k := by
  by_cases z : n = 0
  · subst z; simpa using hk
  · exact (Nat.log2_lt z).mpr h
theorem mulOk_of {i j : Int} {k : Nat} (hi : i.natAbs < 2 ^ k) (hj : j.natAbs < 2 ^ k) (h0 : 0 < k) (hk : k ≤ 400000) : mulOk i j = true := by
  unfold mulOk
  have := log_lt hi h0
  have := log_lt hj h0
  simp
  omega
theorem divOk_of {j : Int} (h : 0 < j) (hj : j.natAbs < 2 ^ 9000) : divOk j = true := by
  unfold divOk
  have := log_lt hj (by decide)
  simp [h, this]
def LowestOk (f : List D → M D) : Prop := ∀ (t : Int) (b : Nat) (S : Sto), 0 < b → b < 2 ^ 9000 → f [.int t, .int b] S = .ok (qd (mkRat t b)) S
theorem lowest_ok {Φ : Fns} (h : ∀ (t : Int) (b : Nat) (S : Sto), b < 2 ^ 9000 → Φ.fn 2 [.int t, .int b] S = .ok (.int (Nat.gcd t.natAbs b)) S) : LowestOk (g_lowest Φ) := by
  intro t b S hb hb2
  have hg : 0 < Nat.gcd t.natAbs b := Nat.gcd_pos_of_pos_right _ hb
  have hd : divOk (Nat.gcd t.natAbs b : Nat) = true := divOk_of (by exact_mod_cast hg) (Nat.lt_of_le_of_lt (Nat.gcd_le_right _ hb) hb2)
  have hb0 : b ≠ 0 := by omega
  have e1 : (mkRat t b).num = t / (Nat.gcd t.natAbs b : Nat) := by rw [Rat.num_mkRat, if_neg hb0, Nat.gcd_comm]
  have e2 : (mkRat t b).den = b / Nat.gcd t.natAbs b := by rw [Rat.den_mkRat, if_neg hb0, Nat.gcd_comm]
  unfold g_lowest p_lowest qd
  rw [e1, e2]
  simp [runB_run, h t b S hb2, hd]
section
variable {Φ : Fns} {k : Nat} {a b : Rat} {S : Sto}
theorem sz.pos (h : sz k a) : 0 < k := by
  rcases Nat.eq_zero_or_pos k with z | z
  · subst z
    have := h.2
    have := a.den_pos
    simp at *
    omega
  · exact z
theorem sz.mono {j : Nat} (h : sz k a) (hk : k ≤ j) : sz j a := ⟨Nat.lt_of_lt_of_le h.1 (Nat.pow_le_pow_right (by decide) hk), Nat.lt_of_lt_of_le h.2 (Nat.pow_le_pow_right (by decide) hk)⟩
theorem den_abs (b : Rat) : ((b.den : Int)).natAbs = b.den := Int.natAbs_natCast _
theorem sz.mul1 (ha : sz k a) (hb : sz k b) (hk : k ≤ 400000) : mulOk a.num b.den = true := mulOk_of ha.1 (by rw [den_abs]; exact hb.2) ha.pos hk
theorem sz.mul2 (ha : sz k a) (hb : sz k b) (hk : k ≤ 400000) : mulOk a.den b.den = true := mulOk_of (by rw [den_abs]; exact ha.2) (by rw [den_abs]; exact hb.2) ha.pos hk
theorem sz.mul3 (ha : sz k a) (hb : sz k b) (hk : k ≤ 400000) : mulOk a.num b.num = true := mulOk_of ha.1 hb.1 ha.pos hk
theorem sz.den (ha : sz k a) (hb : sz k b) (hk : k ≤ 4000) : a.den * b.den < 2 ^ 9000 := by
  refine Nat.lt_of_lt_of_le (Nat.mul_lt_mul'' ha.2 hb.2) ?_
  rw [← Nat.pow_add]
  exact Nat.pow_le_pow_right (by decide) (by omega)
theorem den_mul (a b : Rat) : (a.den : Int) * b.den = ((a.den * b.den : Nat) : Int) := (Int.natCast_mul _ _).symm
theorem add_ok (h : LowestOk (Φ.fn 3)) (hk : k ≤ 4000) (ha : sz k a) (hb : sz k b) : g_add Φ [qd a, qd b] S = .ok (qd (a + b)) S := by
  have h1 := ha.mul1 hb (by omega)
  have h2 := hb.mul1 ha (by omega)
  have h3 := ha.mul2 hb (by omega)
  have h4 := h (a.num * b.den + b.num * a.den) (a.den * b.den) S (Nat.mul_pos a.den_pos b.den_pos) (ha.den hb hk)
  rw [← den_mul] at h4
  rw [Rat.add_def', ← h4]
  unfold g_add p_add qd
  simp [runB_run, h1, h2, h3]
  cases Φ.fn 3 [.int (a.num * b.den + b.num * a.den), .int (a.den * b.den)] S <;> rfl
theorem below_ok (hk : k ≤ 400000) (ha : sz k a) (hb : sz k b) : g_is_below Φ [qd a, qd b] S = .ok (.bl (decide (a < b))) S := by
  have h1 := ha.mul1 hb hk
  have h2 := hb.mul1 ha hk
  have e : decide (a < b) = decide (a.num * b.den < b.num * a.den) := by rw [decide_eq_decide]; exact Rat.lt_iff a b
  rw [e]
  unfold g_is_below p_is_below qd
  simp [runB_run, h1, h2]
def BelowOk (f : List D → M D) : Prop := ∀ (k : Nat) (a b : Rat) (S : Sto), k ≤ 400000 → sz k a → sz k b → f [qd a, qd b] S = .ok (.bl (decide (a < b))) S
def minQ (a b : Rat) : Rat := if b < a then b else a
def maxQ (a b : Rat) : Rat := if a < b then b else a
theorem lesser_ok (h : BelowOk (Φ.fn 9)) (hk : k ≤ 400000) (ha : sz k a) (hb : sz k b) : g_lesser Φ [qd a, qd b] S = .ok (qd (minQ a b)) S := by
  have h1 := h k b a S hk hb ha
  unfold g_lesser p_lesser minQ
  simp [runB_run, h1]
  by_cases z : b < a <;> simp [z]
theorem greater_ok (h : BelowOk (Φ.fn 9)) (hk : k ≤ 400000) (ha : sz k a) (hb : sz k b) : g_greater Φ [qd a, qd b] S = .ok (qd (maxQ a b)) S := by
  have h1 := h k a b S hk ha hb
  unfold g_greater p_greater maxQ
  simp [runB_run, h1]
  by_cases z : a < b <;> simp [z]
theorem sz_min (ha : sz k a) (hb : sz k b) : sz k (minQ a b) := by unfold minQ; split <;> assumption
theorem sz_max (ha : sz k a) (hb : sz k b) : sz k (maxQ a b) := by unfold maxQ; split <;> assumption
theorem half_eq (a : Rat) : a / 2 = mkRat a.num (2 * a.den) := by
  rw [Rat.div_def]
  have e : (2 : Rat)⁻¹ = mkRat 1 2 := by decide +kernel
  rw [e, ← Rat.mkRat_self a, Rat.mkRat_mul_mkRat, Rat.mkRat_self a, Int.mul_one, Nat.mul_comm]
theorem half_ok (h : LowestOk (Φ.fn 3)) (hk : k ≤ 4000) (ha : sz k a) : g_half Φ [qd a] S = .ok (qd (a / 2)) S := by
  have h2 : (2 : Nat) < 2 ^ (k + 2) := by
    have : (2 : Nat) ^ (k + 2) = 2 ^ k * 4 := by rw [Nat.pow_add]
    have : 0 < 2 ^ k := Nat.pow_pos (by decide)
    omega
  have hd : a.den < 2 ^ (k + 2) := Nat.lt_of_lt_of_le ha.2 (Nat.pow_le_pow_right (by decide) (by omega))
  have h1 : mulOk 2 (a.den : Int) = true := mulOk_of (k := k + 2) (by simpa using h2) (by rw [den_abs]; exact hd) (by omega) (by omega)
  have h3 : 2 * a.den < 2 ^ 9000 := by
    have : 2 * a.den < 2 * 2 ^ k := by have := ha.2; omega
    refine Nat.lt_of_lt_of_le this ?_
    rw [Nat.mul_comm, ← Nat.pow_succ]
    exact Nat.pow_le_pow_right (by decide) (by omega)
  have h4 := h a.num (2 * a.den) S (Nat.mul_pos (by decide) a.den_pos) h3
  have e : ((2 * a.den : Nat) : Int) = 2 * (a.den : Int) := by simp
  rw [e] at h4
  rw [half_eq, ← h4]
  unfold g_half p_half qd
  simp [runB_run, h1]
  cases Φ.fn 3 [.int a.num, .int (2 * a.den)] S <;> rfl
def LesserOk (m : Rat → Rat → Rat) (f : List D → M D) : Prop := ∀ (k : Nat) (a b : Rat) (S : Sto), k ≤ 400000 → sz k a → sz k b → f [qd a, qd b] S = .ok (qd (m a b)) S
theorem least_loop {f : Nat} {m : Rat → Rat → Rat} (h : LesserOk m (Φ.fn f)) (hm : ∀ {a b : Rat}, sz k a → sz k b → sz k (m a b)) (hk : k ≤ 400000) {L : Option D} : ∀ (l : List Rat) (q : Rat) (o : Option D), (∀ x ∈ l, sz k x) → sz k q →
    ∃ o', forL (fF Φ fuel (.nm 2) [(.asg (.nm 1) (.call f [(.var 1), (.var 2)]))]) (l.map qd) [L, some (qd q), o] S = .ok (.nx [L, some (qd (l.foldl m q)), o']) S
  | [], q, o, _, _ => ⟨o, rfl⟩
  | x :: l, q, o, hl, hq => by
    have hx := hl x (by simp)
    obtain ⟨o', ih⟩ := least_loop h hm hk l (m q x) (some (qd x)) (fun y hy => hl y (List.mem_cons_of_mem _ hy)) (hm hq hx)
    refine ⟨o', ?_⟩
    have h1 := h k q x S hk hq hx
    rw [List.map_cons, for_cons]
    simp [fF_run, h1]
    exact ih
theorem cutL_tail {α : Type} (x : α) (l : List α) : cutL (x :: l) (some 1) none = l := by
  simp [cutL, cutIx]
theorem least_ok (h : LesserOk minQ (Φ.fn 10)) (hk : k ≤ 400000) {q : Rat} {l : List Rat} (hl : ∀ x ∈ q :: l, sz k x) : g_least Φ [.lst ((q :: l).map qd)] S = .ok (qd (l.foldl minQ q)) S := by
  obtain ⟨o', e⟩ := least_loop (S := S) (L := some (.lst ((q :: l).map qd))) h (fun a b => sz_min a b) hk l q none (fun y hy => hl y (List.mem_cons_of_mem _ hy)) (hl q (by simp))
  unfold g_least p_least
  simp only [List.map_cons] at e ⊢
  simp [runB_run, cutD, cutL_tail, itemsOf, e]
theorem greatest_ok (h : LesserOk maxQ (Φ.fn 11)) (hk : k ≤ 400000) {q : Rat} {l : List Rat} (hl : ∀ x ∈ q :: l, sz k x) : g_greatest Φ [.lst ((q :: l).map qd)] S = .ok (qd (l.foldl maxQ q)) S := by
  obtain ⟨o', e⟩ := least_loop (S := S) (L := some (.lst ((q :: l).map qd))) h (fun a b => sz_max a b) hk l q none (fun y hy => hl y (List.mem_cons_of_mem _ hy)) (hl q (by simp))
  unfold g_greatest p_greatest
  simp only [List.map_cons] at e ⊢
  simp [runB_run, cutD, cutL_tail, itemsOf, e]
end
end RF
end
section
set_option linter.all false
set_option maxRecDepth 100000
set_option maxHeartbeats 4000000
set_option autoImplicit false
/-! RfFrac2: what is a fraction, a share. -/
namespace RF
open PySem (Str)
section
variable {Φ : Fns} {k : Nat} {a b q : Rat} {S : Sto} {v d : D}
/-- neither shared nor an instance -/
def D.own : D → Bool
  | .obj _ | .ins _ _ => false
  | _ => true
def optD : Option Int → D
  | none => .non
  | some i => .int i
def isBetween (v : D) (lo hi : Option Int) : Bool := match v with
  | .int i => (match lo with | none => true | some l => decide (l ≤ i)) && (match hi with | none => true | some h => decide (i ≤ h))
  | _ => false
theorem between_ok (hv : v.own = true) (lo hi : Option Int) : g_is_between Φ [v, optD lo, optD hi] S = .ok (.bl (isBetween v lo hi)) S := by
  unfold g_is_between p_is_between
  cases v <;> first | (simp [runB_run, isD, clsIn, isTy, isBetween]; done) | (simp [D.own] at hv; done) | skip
  rename_i i
  rcases lo with _ | l <;> rcases hi with _ | h <;> simp [runB_run, isD, clsIn, isTy, isBetween, optD]
  by_cases z : l ≤ i <;> simp [z]
def BetweenOk (f : List D → M D) : Prop := ∀ (v : D) (lo hi : Option Int) (S : Sto), v.own = true → f [v, optD lo, optD hi] S = .ok (.bl (isBetween v lo hi)) S
def isFrac : D → Bool
  | .tup [.int n, .int d] => decide (1 ≤ d) && decide (Nat.gcd n.natAbs d.natAbs = 1)
  | _ => false
/-- what may be asked -/
def fracPre : D → Prop
  | .tup [a, .int d] => a.own = true ∧ d.natAbs < 2 ^ 9000
  | .tup [a, b] => a.own = true ∧ b.own = true
  | .obj _ | .ins _ _ => False
  | _ => True
def CommonOk (f : List D → M D) : Prop := ∀ (t : Int) (b : Nat) (S : Sto), b < 2 ^ 9000 → f [.int t, .int b] S = .ok (.int (Nat.gcd t.natAbs b)) S
theorem isFrac_qd (q : Rat) : isFrac (qd q) = true := by
  unfold isFrac qd
  have h1 : (1 : Int) ≤ q.den := by have := q.den_pos; omega
  have h2 : Nat.gcd q.num.natAbs q.den = 1 := q.reduced
  simp [h1, h2]
theorem not_frac (hb : BetweenOk (Φ.fn 0)) (h : fracPre d) (hn : ∀ n m, d ≠ .tup [.int n, .int m]) : g_is_fraction Φ [d] S = .ok (.bl (isFrac d)) S := by
  unfold g_is_fraction p_is_fraction
  cases d with
  | tup l =>
    match l, h, hn with
    | [x, y], h, hn =>
      have h' : x.own = true ∧ y.own = true := by cases y <;> first | exact ⟨h.1, rfl⟩ | exact h
      have e1 := hb x none none S h'.1
      have e2 := hb y (some 1) none S h'.2
      simp only [optD] at e1 e2
      simp [runB_run, isD, clsIn, isTy, e1, e2]
      cases x <;> cases y <;> first | exact absurd rfl (hn _ _) | simp [isBetween, isFrac]
    | [], _, _ => simp [runB_run, isD, clsIn, isTy, isFrac]
    | [_], _, _ => simp [runB_run, isD, clsIn, isTy, isFrac]
    | _ :: _ :: _ :: l, _, _ =>
      have : ¬ ((l.length : Int) + 1 + 1 + 1 = 2) := by omega
      simp [runB_run, isD, clsIn, isTy, isFrac, this]
  | obj _ => exact h.elim
  | ins _ _ => exact h.elim
  | _ => simp [runB_run, isD, clsIn, isTy, isFrac]
theorem fraction_ok (hb : BetweenOk (Φ.fn 0)) (hc : CommonOk (Φ.fn 2)) (h : fracPre d) : g_is_fraction Φ [d] S = .ok (.bl (isFrac d)) S := by
  by_cases hn : ∃ n m, d = .tup [.int n, .int m]
  · obtain ⟨n, m, rfl⟩ := hn
    have e1 := hb (.int n) none none S rfl
    have e2 := hb (.int m) (some 1) none S rfl
    simp only [optD] at e1 e2
    unfold g_is_fraction p_is_fraction
    by_cases hm : 1 ≤ m
    · have e3 := hc n m.toNat S (by have := h.2; omega)
      have e4 : ((m.toNat : Nat) : Int) = m := by omega
      rw [e4] at e3
      have e5 : m.toNat = m.natAbs := by omega
      simp [runB_run, isD, clsIn, isTy, e1, e2, isBetween, hm, e3, isFrac, e5]
      omega
    · simp [runB_run, isD, clsIn, isTy, e1, e2, isBetween, hm, isFrac]
  · exact not_frac hb h fun n m e => hn ⟨n, m, e⟩
def FractionOk (f : List D → M D) : Prop := ∀ (d : D) (S : Sto), fracPre d → f [d] S = .ok (.bl (isFrac d)) S
theorem within_qd (hf : FractionOk (Φ.fn 4)) (hb : BelowOk (Φ.fn 9)) (hk : k ≤ 9000) {lo hi : Rat} (hq : sz k q) (hl : sz k lo) (hh : sz k hi) : g_is_within Φ [qd q, qd lo, qd hi] S = .ok (.bl (decide (lo ≤ q) && decide (q ≤ hi))) S := by
  have hden : ((q.den : Int)).natAbs < 2 ^ 9000 := by rw [den_abs]; exact Nat.lt_of_lt_of_le hq.2 (Nat.pow_le_pow_right (by decide) hk)
  have e1 := hf (qd q) S ⟨rfl, hden⟩
  rw [isFrac_qd] at e1
  have e2 := hb k q lo S (by omega) hq hl
  have e3 := hb k hi q S (by omega) hh hq
  unfold g_is_within p_is_within
  simp [runB_run, e1, e2]
  by_cases z : q < lo
  · have z2 : ¬ lo ≤ q := Rat.not_le.mpr z
    simp [z, z2]
  · have z2 : lo ≤ q := Rat.not_lt.mp z
    simp [z, z2, e3]
    by_cases y : hi < q
    · have : ¬ q ≤ hi := Rat.not_le.mpr y
      simp [y, this]
    · have : q ≤ hi := Rat.not_lt.mp y
      simp [y, this]
theorem within_no (hf : FractionOk (Φ.fn 4)) {x y : D} (h : fracPre d) (hn : isFrac d = false) : g_is_within Φ [d, x, y] S = .ok (.bl false) S := by
  have e1 := hf d S h
  rw [hn] at e1
  unfold g_is_within p_is_within
  simp [runB_run, e1]
theorem sz_zero (h : 0 < k) : sz k 0 := by
  have : 1 < 2 ^ k := Nat.one_lt_two_pow (by omega)
  exact ⟨Nat.pow_pos (by decide), this⟩
theorem sz_one (h : 0 < k) : sz k 1 := by
  have : 1 < 2 ^ k := Nat.one_lt_two_pow (by omega)
  exact ⟨this, this⟩
def WithinOk (f : List D → M D) : Prop := (∀ (k : Nat) (q lo hi : Rat) (S : Sto), k ≤ 9000 → sz k q → sz k lo → sz k hi → f [qd q, qd lo, qd hi] S = .ok (.bl (decide (lo ≤ q) && decide (q ≤ hi))) S) ∧
  ∀ (d x y : D) (S : Sto), fracPre d → isFrac d = false → f [d, x, y] S = .ok (.bl false) S
theorem share_qd (h : WithinOk (Φ.fn 15)) (h0 : Φ.gl 0 = qd 0) (h1 : Φ.gl 1 = qd 1) (hk : k ≤ 9000) (hq : sz k q) : g_is_share Φ [qd q] S = .ok (.bl (decide (0 ≤ q) && decide (q ≤ 1))) S := by
  have e := h.1 k q 0 1 S hk hq (sz_zero hq.pos) (sz_one hq.pos)
  unfold g_is_share p_is_share
  simp [runB_run, h0, h1, e]
theorem share_no (h : WithinOk (Φ.fn 15)) (hp : fracPre d) (hn : isFrac d = false) : g_is_share Φ [d] S = .ok (.bl false) S := by
  have e := h.2 d (Φ.gl 0) (Φ.gl 1) S hp hn
  unfold g_is_share p_is_share
  simp [runB_run, e]
end
end RF
end
section
set_option linter.all false
set_option maxRecDepth 100000
set_option maxHeartbeats 4000000
set_option autoImplicit false
/-! RfWeb: rows of webs. A place is a letter's sign (a number); what stands at it is a rational or arrows. -/
namespace RF
open PySem (Str)
inductive What where
  | num (q : Rat) | arr (l : List Nat)
  deriving Inhabited
abbrev Rows := List (Nat × What)
def pd (c : Nat) : D := .str (sgn c)
def What.d : What → D
  | .num q => qd q
  | .arr l => .tup (l.map pd)
def rowD (p : Nat × What) : D := .tup [pd p.1, p.2.d]
def rowsD (r : Rows) : D := .tup (r.map rowD)
def isLet (c : Nat) : Bool := decide (97 ≤ c) && decide (c ≤ 122)
def LETTERS : Str := "abcdefghijklmnopqrstuvwxyz"
section
variable {Φ : Fns} {k c e : Nat} {a b q : Rat} {S : Sto} {d : D} {l m : List Nat} {r : Rows}
theorem sgn_list (c : Nat) : (sgn c).cps.toList = [c] := rfl
theorem sgn_len (c : Nat) : (sgn c).length = 1 := rfl
theorem sgn_inj : sgn c = sgn e ↔ c = e := by
  constructor
  · intro h
    have := congrArg (fun s : Str => s.cps.toList) h
    simpa [sgn_list] using this
  · exact fun h => by rw [h]
theorem letters_mem : c ∈ LETTERS.cps.toList ↔ isLet c = true := by
  have h : LETTERS.cps.toList = (List.range 26).map (· + 97) := by decide +kernel
  rw [h]
  simp only [List.mem_map, List.mem_range, isLet, Bool.and_eq_true, decide_eq_true_eq]
  constructor
  · rintro ⟨x, hx, rfl⟩; omega
  · rintro ⟨h1, h2⟩; exact ⟨c - 97, by omega, by omega⟩
theorem c_ltP : cmpD .lt (pd c) (pd e) S = .ok (.bl (decide (c < e))) S := by
  have h : ([c] < [e]) ↔ c < e := by
    show List.Lex (· < ·) [c] [e] ↔ _
    constructor
    · intro h
      cases h with
      | rel h => exact h
      | cons h => cases h
    · exact fun h => .rel h
  show Out.ok (D.bl (decide ((sgn c).cps.toList < (sgn e).cps.toList))) S = _
  congr 2
  rw [decide_eq_decide]
  exact h
/-- a place in a list of places -/
theorem flat_map (l : List Nat) : (l.map pd).all D.flat = true := by
  rw [List.all_eq_true]
  intro d hd
  obtain ⟨x, _, rfl⟩ := List.mem_map.mp hd
  rfl
theorem any_pd (l : List Nat) : ((l.map pd).any fun y => D.eqv y (pd c)) = decide (c ∈ l) := by
  induction l with
  | nil => simp
  | cons x l ih =>
    rw [List.map_cons, List.any_cons, ih]
    have : D.eqv (pd x) (pd c) = decide (x = c) := by
      show (sgn x == sgn c) = _
      by_cases z : x = c
      · subst z; simp
      · have : sgn x ≠ sgn c := fun y => z (sgn_inj.mp y)
        simp [z, this]
    rw [this]
    by_cases z : x = c
    · subst z; simp
    · have : c ≠ x := fun y => z y.symm
      simp [z, this]
theorem inD_flat {x : D} {m : List D} (h : (D.flat x && m.all D.flat) = true) : inD S x (.lst m) = some (m.any fun y => D.eqv y x) := by
  unfold inD
  exact if_pos h
theorem inD_L : inD S (pd c) (.lst (l.map pd)) = some (decide (c ∈ l)) := by
  rw [inD_flat (by rw [flat_map]; rfl), any_pd]
theorem c_inL : cmpD .inn (pd c) (.lst (l.map pd)) S = .ok (.bl (decide (c ∈ l))) S := by rw [c_in, inD_L]
theorem c_ninL : cmpD .nin (pd c) (.lst (l.map pd)) S = .ok (.bl (!decide (c ∈ l))) S := by rw [c_nin, inD_L]
/-! ### is_letter, is_end -/
theorem letter_ok (h : Φ.gl 7 = .str LETTERS) : g_is_letter Φ [pd c] S = .ok (.bl (isLet c)) S := by
  have e1 : inD S (pd c) (.str LETTERS) = some (decide (c ∈ LETTERS.cps.toList)) := rfl
  have e2 : decide (c ∈ LETTERS.cps.toList) = isLet c := by
    cases z : isLet c with
    | true => exact decide_eq_true (letters_mem.mpr z)
    | false => exact decide_eq_false fun y => by rw [letters_mem.mp y] at z; cases z
  have e3 : cmpD .inn (pd c) (.str LETTERS) S = .ok (.bl (isLet c)) S := by rw [c_in, e1, e2]
  have e4 : biD .len [pd c] S = .ok (.int 1) S := by
    show biD .len [.str (sgn c)] S = _
    rw [f_lenS, sgn_len]
    rfl
  have e5 : isTy .str (pd c) = true := rfl
  have e6 : isD Φ.nc S .str (pd c) = some true := rfl
  unfold g_is_letter p_is_letter
  simp [runB_run, h, e3, e4, e6]
theorem end_num : g_is_end Φ [(What.num q).d] S = .ok (.bl true) S := by
  unfold g_is_end p_is_end What.d qd
  simp [runB_run, isD, clsIn, isTy]
theorem end_arr : g_is_end Φ [(What.arr (c :: l)).d] S = .ok (.bl false) S := by
  have e6 : isD Φ.nc S .int (pd c) = some false := rfl
  unfold g_is_end p_is_end What.d
  simp [runB_run, e6]
/-! ### comprehensions over mapped items -/
theorem comp_map {α : Type} {g : α → D} {h : D → M (Option D)} {f : α → Option D} : ∀ {items : List α}, (∀ x ∈ items, h (g x) S = .ok (f x) S) → compL h (items.map g) S = .ok (items.filterMap f) S
  | [], _ => rfl
  | x :: items, hx => by
    have h1 := hx x (by simp)
    have h2 := comp_map (items := items) fun y hy => hx y (List.mem_cons_of_mem _ hy)
    rw [List.map_cons, comp_cons, h1, go_ok, h2, go_ok, List.filterMap_cons]
    cases f x <;> rfl
theorem comp_map1 {α : Type} {g : α → D} {h : D → M (Option D)} {f : α → D} {items : List α} (hx : ∀ x ∈ items, h (g x) S = .ok (some (f x)) S) : compL h (items.map g) S = .ok (items.map f) S := by
  rw [comp_map (f := fun x => some (f x)) hx, List.filterMap_eq_map']
theorem bls_map {α : Type} {p : α → Bool} : ∀ {l : List α}, blsOf (l.map fun x => D.bl (p x)) = some (l.map p)
  | [] => rfl
  | x :: l => by
    show (blsOf (l.map fun x => D.bl (p x))).map _ = _
    rw [bls_map]
    rfl
theorem range_map (n : Nat) : rangeL n 0 = (List.range n).map fun i : Nat => D.int (i : Int) := by
  have gen : ∀ (n : Nat) (lo : Nat), rangeL n lo = (List.range n).map fun i : Nat => D.int ((lo + i : Nat) : Int) := by
    intro n
    induction n with
    | zero => intro lo; rfl
    | succ n ih =>
      intro lo
      have := ih (lo + 1)
      rw [List.range_succ_eq_map]
      simp only [rangeL, List.map_cons, List.map_map, Nat.add_zero, List.cons.injEq, true_and]
      rw [show ((lo : Int) + 1) = ((lo + 1 : Nat) : Int) by simp, this]
      refine List.map_congr_left fun i _ => ?_
      simp only [Function.comp]
      congr 2
      omega
  have := gen n 0
  simpa using this
theorem atI_map {α β : Type} (f : α → β) (l : List α) (i : Nat) {x : α} (h : l[i]? = some x) : atI (l.map f) (i : Int) = some (f x) := by
  have hi : i < l.length := (List.getElem?_eq_some_iff.mp h).1
  unfold atI ixOf
  simp [hi]
  rw [(List.getElem?_eq_some_iff.mp h).2]
theorem ixF_T {l : List Nat} {i : Nat} {x : Nat} (h : l[i]? = some x) : ixF (.tup (l.map pd)) (.int i) S = .ok (pd x) S := ixF_of (atI_map pd l i h)
theorem ixF_L {l : List Nat} {i : Nat} {x : Nat} (h : l[i]? = some x) : ixF (.lst (l.map pd)) (.int i) S = .ok (pd x) S := ixF_of (atI_map pd l i h)
theorem items_range1 {n : Nat} (h : n ≤ 1000000) : itemsOf .range1 [.int ((n : Int) - 1)] = some ((List.range (n - 1)).map fun i : Nat => D.int (i : Int)) := by
  have hs : small ((n : Int) - 1) = true := by unfold small; simp; omega
  have e : ((n : Int) - 1).toNat = n - 1 := by omega
  show (if small ((n : Int) - 1) = true then some (rangeL ((n : Int) - 1).toNat 0) else none) = _
  rw [if_pos hs, e, range_map]
/-- each is greater than the one ahead of it -/
def asc (l : List Nat) : Bool := (List.range (l.length - 1)).all fun i => decide (l.getD i 0 < l.getD (i + 1) 0)
theorem asc_core {v : D} (hlen : biD .len [v] S = .ok (.int l.length) S) (hix : ∀ (i x : Nat), l[i]? = some x → ixF v (.int i) S = .ok (pd x) S) (hl : l.length ≤ 1000) : g_is_ascending Φ [v] S = .ok (.bl (asc l)) S := by
  have hc : ∀ i ∈ List.range (l.length - 1), kF Φ (.nm 1) [] (.cmp .lt (.ix (.var 0) (.var 1)) (.ix (.var 0) (.bin .add (.var 1) (.cst (.int 1))))) [1] [some v, none] (D.int (i : Int)) S = .ok (some (.bl (decide (l.getD i 0 < l.getD (i + 1) 0)))) S := by
    intro i hi
    have hi' : i + 1 < l.length := by have := List.mem_range.mp hi; omega
    have e1 := hix i l[i] (by simp)
    have e2 := hix (i + 1) l[i + 1] (by simp)
    have e3 : ((i : Int) + 1) = ((i + 1 : Nat) : Int) := by simp
    rw [← e3] at e2
    have g1 : l.getD i 0 = l[i] := by simp [List.getD, show i < l.length by omega]
    have g2 : l.getD (i + 1) 0 = l[i + 1] := by simp [List.getD, hi']
    rw [g1, g2]
    simp [kF_run, wipe, e1, e2, c_ltP]
  have h1 := comp_map1 hc
  have h2 : (List.range (l.length - 1)).length < line := by simp [line]; omega
  unfold g_is_ascending p_is_ascending
  simp only [runB_run, ss_cons, s_ret, r_bi, rs_cons, rs_nil, r_comp, r_bin, r_var, r_cst, getV_run]
  simp [hlen, items_range1 (n := l.length) (by omega), h1, f_all bls_map, show l.length - 1 < line by simp [line]; omega]
  rfl
theorem asc_L (hl : l.length ≤ 1000) : g_is_ascending Φ [.lst (l.map pd)] S = .ok (.bl (asc l)) S := asc_core (by simp) (fun i x h => ixF_L h) hl
theorem asc_T (hl : l.length ≤ 1000) : g_is_ascending Φ [.tup (l.map pd)] S = .ok (.bl (asc l)) S := asc_core (by simp) (fun i x h => ixF_T h) hl
/-! ### parts, arrows, pairs -/
def ShareOk (f : List D → M D) : Prop := (∀ (k : Nat) (q : Rat) (S : Sto), k ≤ 9000 → sz k q → f [qd q] S = .ok (.bl (decide (0 ≤ q) && decide (q ≤ 1))) S) ∧ ∀ (d : D) (S : Sto), fracPre d → isFrac d = false → f [d] S = .ok (.bl false) S
def MB : Nat := 10 ^ 12
theorem part_qd (h : ShareOk (Φ.fn 16)) (h4 : Φ.gl 4 = .int MB) (hk : k ≤ 9000) (hq : sz k q) : g_is_part Φ [qd q] S = .ok (.bl ((decide (0 ≤ q) && decide (q ≤ 1)) && decide (q.den ≤ MB))) S := by
  have e := h.1 k q S hk hq
  have e2 : ixF (qd q) (.int 1) S = .ok (.int q.den) S := ixF_T1
  unfold g_is_part p_is_part
  simp [runB_run, e, e2, h4]
  by_cases z : 0 ≤ q ∧ q ≤ 1
  · simp [z.1, z.2]
  · have : ¬ (0 ≤ q ∧ q ≤ 1) := z
    simp [this]
theorem arr_noFrac (l : List Nat) : fracPre (What.arr l).d ∧ isFrac (What.arr l).d = false := by
  unfold What.d
  match l with
  | [] => exact ⟨trivial, rfl⟩
  | [_] => exact ⟨trivial, rfl⟩
  | [a, b] => exact ⟨⟨rfl, rfl⟩, rfl⟩
  | _ :: _ :: _ :: _ => exact ⟨trivial, rfl⟩
theorem part_arr (h : ShareOk (Φ.fn 16)) : g_is_part Φ [(What.arr l).d] S = .ok (.bl false) S := by
  have e := h.2 _ S (arr_noFrac l).1 (arr_noFrac l).2
  unfold g_is_part p_is_part
  simp [runB_run, e]
def LetterOk (f : List D → M D) : Prop := ∀ (c : Nat) (S : Sto), f [pd c] S = .ok (.bl (isLet c)) S
def AscOk (f : List D → M D) : Prop := (∀ (l : List Nat) (S : Sto), l.length ≤ 1000 → f [.lst (l.map pd)] S = .ok (.bl (asc l)) S) ∧ ∀ (l : List Nat) (S : Sto), l.length ≤ 1000 → f [.tup (l.map pd)] S = .ok (.bl (asc l)) S
theorem arrows_ok (hL : LetterOk (Φ.fn 17)) (hA : AscOk (Φ.fn 19)) (hl : l.length ≤ 1000) (h0 : l ≠ []) : g_are_arrows Φ [(What.arr l).d] S = .ok (.bl (l.all isLet && asc l)) S := by
  have e1 := hA.2 l S hl
  have hc : ∀ c ∈ l, kF Φ (.nm 1) [] (.call 17 [(.var 1)]) [1] [some (.tup (l.map pd)), none] (pd c) S = .ok (some (.bl (isLet c))) S := by
    intro c _
    simp [kF_run, wipe, hL c S]
  have h1 := comp_map1 hc
  have h2 : l.length < line := by simp [line]; omega
  have h3 : ¬ ((l.length : Int) = 0) := by
    have : l.length ≠ 0 := fun z => h0 (List.length_eq_zero_iff.mp z)
    omega
  have h4 : itemsOf .seq [.tup (l.map pd)] = some (l.map pd) := rfl
  unfold g_are_arrows p_are_arrows What.d
  simp [runB_run, isD, clsIn, isTy, h4, h1, h2, h3, h0, f_all bls_map, e1]
  cases z : l.all isLet with
  | true =>
    have : ¬ ∃ x, x ∈ l ∧ isLet x = false := fun ⟨x, hx, y⟩ => by rw [List.all_eq_true.mp z x hx] at y; cases y
    simp [this, e1]
  | false =>
    have : ∃ x, x ∈ l ∧ isLet x = false := by
      rw [List.all_eq_false] at z
      obtain ⟨x, hx, y⟩ := z
      exact ⟨x, hx, by simpa using y⟩
    simp [this]
def whatOk : What → Prop
  | .num q => (0 ≤ q ∧ q ≤ 1) ∧ q.den ≤ MB
  | .arr l => l ≠ [] ∧ l.length ≤ 1000 ∧ l.all isLet = true ∧ asc l = true
theorem sz_unit (h0 : 0 ≤ q) (h1 : q ≤ 1) (hd : q.den ≤ MB) : sz 64 q := by
  have hm : MB < 2 ^ 64 := by decide
  refine ⟨?_, by omega⟩
  have e0 : 0 ≤ q.num := Rat.num_nonneg.mpr h0
  have e1 : q.num ≤ q.den := by
    have := (Rat.le_iff q 1).mp h1
    simpa using this
  omega
def PartOk (f : List D → M D) : Prop := (∀ (k : Nat) (q : Rat) (S : Sto), k ≤ 9000 → sz k q → f [qd q] S = .ok (.bl ((decide (0 ≤ q) && decide (q ≤ 1)) && decide (q.den ≤ MB))) S) ∧ ∀ (l : List Nat) (S : Sto), f [(What.arr l).d] S = .ok (.bl false) S
def ArrowsOk (f : List D → M D) : Prop := ∀ (l : List Nat) (S : Sto), l.length ≤ 1000 → l ≠ [] → f [(What.arr l).d] S = .ok (.bl (l.all isLet && asc l)) S
theorem pair_ok {w : What} (hL : LetterOk (Φ.fn 17)) (hP : PartOk (Φ.fn 18)) (hA : ArrowsOk (Φ.fn 20)) (hc : isLet c = true) (hw : whatOk w) : g_is_pair Φ [rowD (c, w)] S = .ok (.bl true) S := by
  have e1 := hL c S
  rw [hc] at e1
  unfold g_is_pair p_is_pair rowD
  cases w with
  | num q =>
    have e2 := hP.1 64 q S (by decide) (sz_unit hw.1.1 hw.1.2 hw.2)
    simp only [hw.1.1, hw.1.2, hw.2, decide_true, Bool.and_true] at e2
    simp [runB_run, isD, clsIn, isTy, e1, What.d, e2]
  | arr l =>
    have e2 := hP.2 l S
    have e3 := hA l S hw.2.1 hw.1
    rw [hw.2.2.1, hw.2.2.2] at e3
    simp [runB_run, isD, clsIn, isTy, e1, e2, e3]
/-! ### lost_places -/
def EndOk (f : List D → M D) : Prop := (∀ (q : Rat) (S : Sto), f [(What.num q).d] S = .ok (.bl true) S) ∧ ∀ (c : Nat) (l : List Nat) (S : Sto), f [(What.arr (c :: l)).d] S = .ok (.bl false) S
def isNum : What → Bool
  | .num _ => true
  | .arr _ => false
def What.ne : What → Prop
  | .num _ => True
  | .arr l => l ≠ []
theorem end_ok (h : EndOk (Φ.fn 21)) {w : What} (hw : w.ne) (S : Sto) : Φ.fn 21 [w.d] S = .ok (.bl (isNum w)) S := by
  cases w with
  | num q => exact h.1 q S
  | arr l =>
    cases l with
    | nil => exact absurd rfl hw
    | cons c l => exact h.2 c l S
def homes0 (r : Rows) : List Nat := (r.filter fun p => isNum p.2).map (·.1)
/-- a row's turn of a pass -/
def homeStep (home : List Nat) (p : Nat × What) : List Nat := match p.2 with
  | .num _ => home
  | .arr l => if p.1 ∉ home ∧ l.any (fun t => decide (t ∈ home)) = true then home ++ [p.1] else home
def homePass (r : Rows) (home : List Nat) : List Nat := r.foldl homeStep home
def homeAfter (r : Rows) : Nat → List Nat
  | 0 => homes0 r
  | n + 1 => homePass r (homeAfter r n)
theorem homeStep_sub {home : List Nat} {p : Nat × What} {x : Nat} (h : x ∈ home) : x ∈ homeStep home p := by
  unfold homeStep
  split
  · exact h
  · split
    · exact List.mem_append_left _ h
    · exact h
theorem homePass_sub {x : Nat} : ∀ {r : Rows} {home : List Nat}, x ∈ home → x ∈ homePass r home
  | [], _, h => h
  | p :: r, home, h => homePass_sub (r := r) (home := homeStep home p) (homeStep_sub h)
theorem homePass_get {p : Nat × What} {l : List Nat} {t : Nat} (hp2 : p.2 = .arr l) (ht : t ∈ l) : ∀ {r : Rows} {home : List Nat}, p ∈ r → t ∈ home → p.1 ∈ homePass r home
  | [], _, h, _ => nomatch h
  | x :: r, home, h, hh => by
    rcases List.mem_cons.mp h with z | z
    · subst z
      refine homePass_sub (r := r) (home := homeStep home p) ?_
      unfold homeStep
      rw [hp2]
      by_cases y : p.1 ∈ home
      · dsimp only; split
        · exact List.mem_append_left _ y
        · exact y
      · have : l.any (fun t => decide (t ∈ home)) = true := List.any_eq_true.mpr ⟨t, ht, by simpa using hh⟩
        dsimp only
        rw [if_pos ⟨y, this⟩]
        simp
    · exact homePass_get hp2 ht (r := r) (home := homeStep home x) z (homeStep_sub hh)
theorem any_map_id {α : Type} (p : α → Bool) (l : List α) : (l.map p).any id = l.any p := by rw [List.any_map]; rfl
def bodyL : List RF.S := [(.iff (.and [(.cmp .nin (.var 3) (.var 1)), (.bi .any [(.comp (.cmp .inn (.var 5) (.var 1)) (.nm 5) .seq [(.var 4)] [] [5])])]) [(.app 1 (.var 3))] [])]
theorem homeStep_len (home : List Nat) (p : Nat × What) : (homeStep home p).length ≤ home.length + 1 := by
  unfold homeStep
  split
  · omega
  · split <;> simp
theorem homePass_len : ∀ (r : Rows) (home : List Nat), (homePass r home).length ≤ home.length + r.length
  | [], home => by simp [homePass]
  | p :: r, home => by
    have h1 := homePass_len r (homeStep home p)
    have h2 := homeStep_len home p
    have e : homePass (p :: r) home = homePass r (homeStep home p) := rfl
    rw [e, List.length_cons]
    omega
theorem row_run {R s2 : Option D} (p : Nat × What) (home : List Nat) (o3 o4 o5 : Option D) (hn : isNum p.2 = true → p.1 ∈ home) (hl : ∀ l, p.2 = .arr l → l.length ≤ 1000) (hb : home.length ≤ 1000000) :
    fF Φ fuel (.tup [.nm 3, .nm 4]) bodyL (rowD p) [R, some (.lst (home.map pd)), s2, o3, o4, o5] S = .ok (.nx [R, some (.lst ((homeStep home p).map pd)), s2, some (pd p.1), some p.2.d, o5]) S := by
  obtain ⟨c, w⟩ := p
  have hline : home.length < line := by simp [line]; omega
  unfold bodyL rowD
  cases w with
  | num q =>
    have hm : c ∈ home := hn rfl
    simp [fF_run, c_ninL, hm, homeStep]
  | arr l =>
    have hl' := hl l rfl
    have hll : l.length < line := by simp [line]; omega
    have hc : ∀ t ∈ l, kF Φ (.nm 5) [] (.cmp .inn (.var 5) (.var 1)) [5] [R, some (.lst (home.map pd)), s2, some (pd c), some (What.arr l).d, o5] (pd t) S = .ok (some (.bl (decide (t ∈ home)))) S := by
      intro t _
      simp [kF_run, wipe, c_inL]
    have h1 := comp_map1 hc
    have h4 : itemsOf .seq [(What.arr l).d] = some (l.map pd) := rfl
    by_cases hm : c ∈ home
    · simp [fF_run, c_ninL, hm, homeStep]
    · by_cases ha : l.any (fun t => decide (t ∈ home)) = true
      · simp only [homeStep, hm, ha, not_false_eq_true, and_self, if_true]
        have ha2 : (l.map fun t => decide (t ∈ home)).any id = true := by rw [any_map_id]; exact ha
        simp [fF_run, c_ninL, hm, h4, h1, hll, f_any bls_map, ha2, hline, -List.any_map, -List.any_eq_true]
      · have ha1 : l.any (fun t => decide (t ∈ home)) = false := by simpa using ha
        simp only [homeStep, hm, ha1, not_false_eq_true, true_and, Bool.false_eq_true, if_false]
        have ha2 : (l.map fun t => decide (t ∈ home)).any id = false := by rw [any_map_id]; exact ha1
        simp [fF_run, c_ninL, hm, h4, h1, hll, f_any bls_map, ha2, -List.any_map, -List.any_eq_false, -List.any_eq_true]
theorem pass_run {R s2 : Option D} : ∀ (r : Rows) (home : List Nat) (o3 o4 o5 : Option D), (∀ p ∈ r, isNum p.2 = true → p.1 ∈ home) → (∀ p ∈ r, ∀ l, p.2 = .arr l → l.length ≤ 1000) → home.length + r.length ≤ 1000000 →
    ∃ o3' o4', forL (fF Φ fuel (.tup [.nm 3, .nm 4]) bodyL) (r.map rowD) [R, some (.lst (home.map pd)), s2, o3, o4, o5] S = .ok (.nx [R, some (.lst ((homePass r home).map pd)), s2, o3', o4', o5]) S
  | [], home, o3, o4, o5, _, _, _ => ⟨o3, o4, rfl⟩
  | p :: r, home, o3, o4, o5, hn, hl, hb => by
    have h1 := row_run (Φ := Φ) (S := S) (R := R) (s2 := s2) p home o3 o4 o5 (hn p (by simp)) (hl p (by simp)) (by omega)
    have hlen := homeStep_len home p
    rw [List.length_cons] at hb
    obtain ⟨o3', o4', ih⟩ := pass_run (R := R) (s2 := s2) r (homeStep home p) (some (pd p.1)) (some p.2.d) o5 (fun x hx hxn => homeStep_sub (hn x (List.mem_cons_of_mem _ hx) hxn)) (fun x hx => hl x (List.mem_cons_of_mem _ hx)) (by omega)
    refine ⟨o3', o4', ?_⟩
    rw [List.map_cons, for_cons, h1, go_ok]
    exact ih
def bodyO : List RF.S := [(.forr (.tup [(.nm 3), (.nm 4)]) .seq [(.var 0)] bodyL)]
theorem homeAfter_num (n : Nat) {p : Nat × What} (hp : p ∈ r) (hn : isNum p.2 = true) : p.1 ∈ homeAfter r n := by
  induction n with
  | zero => exact List.mem_map.mpr ⟨p, List.mem_filter.mpr ⟨hp, hn⟩, rfl⟩
  | succ n ih => exact homePass_sub ih
theorem homeAfter_len (n : Nat) : (homeAfter r n).length ≤ (n + 1) * r.length := by
  induction n with
  | zero =>
    have : (homes0 r).length ≤ r.length := by unfold homes0; rw [List.length_map]; exact List.length_filter_le _ _
    simpa [homeAfter] using this
  | succ n ih =>
    have h1 := homePass_len r (homeAfter r n)
    have e : (n + 1 + 1) * r.length = (n + 1) * r.length + r.length := by rw [Nat.add_mul, Nat.one_mul]
    show (homePass r (homeAfter r n)).length ≤ _
    omega
theorem passes_run (hl : ∀ p ∈ r, ∀ l, p.2 = .arr l → l.length ≤ 1000) (hr : r.length ≤ 900) : ∀ (m i : Nat) (o2 o3 o4 o5 : Option D), i + m = r.length →
    ∃ o2' o3' o4', forL (fF Φ fuel (.nm 2) bodyO) ((List.range' i m).map fun j : Nat => D.int (j : Int)) [some (rowsD r), some (.lst ((homeAfter r i).map pd)), o2, o3, o4, o5] S
      = .ok (.nx [some (rowsD r), some (.lst ((homeAfter r r.length).map pd)), o2', o3', o4', o5]) S
  | 0, i, o2, o3, o4, o5, h => by
    have e : i = r.length := by omega
    subst e
    exact ⟨o2, o3, o4, rfl⟩
  | m + 1, i, o2, o3, o4, o5, h => by
    have hlen := homeAfter_len (r := r) i
    have hb : (homeAfter r i).length + r.length ≤ 1000000 := by
      have : (i + 1) * r.length ≤ 901 * 900 := Nat.mul_le_mul (by omega) hr
      omega
    obtain ⟨o3', o4', h1⟩ := pass_run (Φ := Φ) (S := S) (R := some (rowsD r)) (s2 := some (.int i)) r (homeAfter r i) o3 o4 o5 (fun p hp hn => homeAfter_num i hp hn) hl hb
    obtain ⟨a2, a3, a4, ih⟩ := passes_run hl hr m (i + 1) (some (.int i)) o3' o4' o5 (by omega)
    refine ⟨a2, a3, a4, ?_⟩
    have h4 : itemsOf .seq [rowsD r] = some (r.map rowD) := rfl
    rw [List.range'_succ, List.map_cons, for_cons]
    have h5 : fF Φ fuel (.nm 2) bodyO (D.int (i : Int)) [some (rowsD r), some (.lst ((homeAfter r i).map pd)), o2, o3, o4, o5] S = .ok (.nx [some (rowsD r), some (.lst ((homeAfter r (i + 1)).map pd)), some (.int i), o3', o4', o5]) S := by
      unfold bodyO
      simp [fF_run, h4, h1]
      rfl
    rw [h5, go_ok]
    exact ih
/-- the places from which no arrows lead home -/
def lost (r : Rows) : List Nat := (r.filter fun p => !decide (p.1 ∈ homeAfter r r.length)).map (·.1)
theorem items_rangeN {n : Nat} (h : n ≤ 1000000) : itemsOf .range1 [.int (n : Int)] = some ((List.range' 0 n).map fun i : Nat => D.int (i : Int)) := by
  have hs : small (n : Int) = true := by unfold small; simp; omega
  show (if small (n : Int) = true then some (rangeL (n : Int).toNat 0) else none) = _
  rw [if_pos hs, Int.toNat_natCast, range_map, List.range_eq_range']
theorem filter_comp {α : Type} (p : α → Bool) (f : α → D) (l : List α) : l.filterMap (fun x => if p x = true then some (f x) else none) = (l.filter p).map f := by
  induction l with
  | nil => rfl
  | cons x l ih =>
    rw [List.filterMap_cons, List.filter_cons]
    cases p x <;> simp [ih]
end
end RF
end
section
set_option linter.all false
set_option maxRecDepth 100000
set_option maxHeartbeats 4000000
set_option autoImplicit false
/-! RfWeb2: rows that are right. -/
namespace RF
open PySem (Str)
section
variable {Φ : Fns} {k c e : Nat} {a b q : Rat} {S : Sto} {d : D} {l m : List Nat} {r : Rows}
theorem bi_var {R v : D} {B : Bi} {δ : En} (h : biD B [R] S = .ok v S) : denX Φ (.bi B [(.var 0)]) (some R :: δ) S = .ok v S := by
  have e : denXs Φ [.var 0] (some R :: δ) S = .ok [R] S := by simp
  rw [r_bi, e]
  exact go_ok.trans h
theorem for_len {R : D} {n N : Nat} {b : List RF.S} {δ : En} {l : List D} (h : biD .len [R] S = .ok (.int n) S) (h6 : itemsOf .range1 [.int (n : Int)] = some l) : denS Φ N (.forr (.nm 2) .range1 [(.bi .len [(.var 0)])] b) (some R :: δ) S = forL (fF Φ N (.nm 2) b) l (some R :: δ) S := by
  have e := bi_var (Φ := Φ) (δ := δ) h
  have e2 : denXs Φ [.bi .len [.var 0]] (some R :: δ) S = .ok [.int (n : Int)] S := by
    rw [rs_cons, e]
    rfl
  rw [s_for, e2]
  refine go_ok.trans ?_
  rw [h6]
  rfl
theorem len_rows (r : Rows) : biD .len [rowsD r] S = .ok (.int r.length) S := by
  unfold rowsD
  have h : ((r.map rowD).length : Int) = r.length := by rw [List.length_map]
  exact f_lenT.trans (by rw [h])
theorem lost_ok (hE : EndOk (Φ.fn 21)) (hne : ∀ p ∈ r, p.2.ne) (hl : ∀ p ∈ r, ∀ l, p.2 = .arr l → l.length ≤ 1000) (hr : r.length ≤ 900) : g_lost_places Φ [rowsD r] S = .ok (.lst ((lost r).map pd)) S := by
  have hline : r.length < line := by simp [line]; omega
  have h4 : itemsOf .seq [rowsD r] = some (r.map rowD) := rfl
  have hc1 : ∀ p ∈ r, kF Φ (.tup [.nm 3, .nm 4]) [(.call 21 [(.var 4)])] (.var 3) [3, 4] [some (rowsD r), none, none, none, none, none] (rowD p) S = .ok (if isNum p.2 = true then some (pd p.1) else none) S := by
    intro p hp
    have e := end_ok hE (hne p hp) S
    unfold rowD
    simp [kF_run, wipe, e]
    cases isNum p.2 <;> simp
  have h1 := comp_map hc1
  rw [filter_comp (fun p : Nat × What => isNum p.2) (fun p => pd p.1)] at h1
  have e1 : ((r.filter fun p => isNum p.2).map fun p => pd p.1) = (homeAfter r 0).map pd := by
    show _ = (homes0 r).map pd
    unfold homes0
    rw [List.map_map]
    rfl
  rw [e1] at h1
  obtain ⟨o2', o3', o4', h2⟩ := passes_run (Φ := Φ) (S := S) hl hr r.length 0 none none none none (by omega)
  have hc3 : ∀ p ∈ r, kF Φ (.tup [.nm 3, .nm 4]) [(.cmp .nin (.var 3) (.var 1))] (.var 3) [3, 4] [some (rowsD r), some (.lst ((homeAfter r r.length).map pd)), o2', o3', o4', none] (rowD p) S = .ok (if (!decide (p.1 ∈ homeAfter r r.length)) = true then some (pd p.1) else none) S := by
    intro p hp
    unfold rowD
    simp [kF_run, wipe, c_ninL]
    by_cases z : p.1 ∈ homeAfter r r.length <;> simp [z]
  have h3 := comp_map hc3
  rw [filter_comp (fun p : Nat × What => !decide (p.1 ∈ homeAfter r r.length)) (fun p => pd p.1)] at h3
  have e3 : ((r.filter fun p => !decide (p.1 ∈ homeAfter r r.length)).map fun p => pd p.1) = (lost r).map pd := by
    unfold lost
    rw [List.map_map]
    rfl
  rw [e3] at h3
  have hlen : biD .len [rowsD r] S = .ok (.int r.length) S := len_rows r
  have s1 : denS Φ fuel (.asg (.nm 1) (.comp (.var 3) (.tup [(.nm 3), (.nm 4)]) .seq [(.var 0)] [(.call 21 [(.var 4)])] [3, 4])) [some (rowsD r), none, none, none, none, none] S = .ok (.nx [some (rowsD r), some (.lst ((homeAfter r 0).map pd)), none, none, none, none]) S := by
    have h5 : (r.map rowD).length < line := by simpa using hline
    simp only [s_asg, r_comp, rs_cons, rs_nil, r_var, getV_run, List.getElem?_cons_zero, go_ok, h4, ofO_some, h1, if_pos h5]
    simp
  have s2 : denS Φ fuel (.forr (.nm 2) .range1 [(.bi .len [(.var 0)])] bodyO) [some (rowsD r), some (.lst ((homeAfter r 0).map pd)), none, none, none, none] S = .ok (.nx [some (rowsD r), some (.lst ((homeAfter r r.length).map pd)), o2', o3', o4', none]) S := by
    exact (for_len hlen (items_rangeN (Nat.le_trans hr (by decide)))).trans h2
  have s3 : denS Φ fuel (.ret (some (.comp (.var 3) (.tup [(.nm 3), (.nm 4)]) .seq [(.var 0)] [(.cmp .nin (.var 3) (.var 1))] [3, 4]))) [some (rowsD r), some (.lst ((homeAfter r r.length).map pd)), o2', o3', o4', none] S = .ok (.rt (.lst ((lost r).map pd))) S := by
    have h5 : (r.map rowD).length < line := by simpa using hline
    simp only [s_ret, r_comp, rs_cons, rs_nil, r_var, getV_run, List.getElem?_cons_zero, go_ok, h4, ofO_some, h3, if_pos h5]
  have e0 : p_lost_places = [.asg (.nm 1) (.comp (.var 3) (.tup [(.nm 3), (.nm 4)]) .seq [(.var 0)] [(.call 21 [(.var 4)])] [3, 4]), .forr (.nm 2) .range1 [(.bi .len [(.var 0)])] bodyO, .ret (some (.comp (.var 3) (.tup [(.nm 3), (.nm 4)]) .seq [(.var 0)] [(.cmp .nin (.var 3) (.var 1))] [3, 4]))] := rfl
  unfold g_lost_places
  rw [runB_run, e0]
  simp only [List.map_cons, List.map_nil, List.length_cons, List.length_nil, List.cons_append, List.nil_append, show List.replicate (6 - (0 + 1)) (none : Option D) = [none, none, none, none, none] from rfl, ss_cons, s1, nxt_nx, s2, s3, nxt_rt, ret_rt]
/-- rows of a web -/
structure RowsOk (r : Rows) : Prop where
  len : 1 ≤ r.length ∧ r.length ≤ 10
  lets : ∀ p ∈ r, isLet p.1 = true
  what : ∀ p ∈ r, whatOk p.2
  asc : asc (r.map (·.1)) = true
  to : ∀ p ∈ r, ∀ l, p.2 = .arr l → ∀ t ∈ l, t ∈ r.map (·.1)
  home : lost r = []
theorem RowsOk.ne (h : RowsOk r) : ∀ p ∈ r, p.2.ne := fun p hp => by
  have := h.what p hp
  cases e : p.2 with
  | num q => trivial
  | arr l => rw [e] at this; exact this.1
theorem RowsOk.short (h : RowsOk r) : ∀ p ∈ r, ∀ l, p.2 = .arr l → l.length ≤ 1000 := fun p hp l e => by
  have := h.what p hp
  rw [e] at this
  exact this.2.1
end
end RF
end
section
set_option linter.all false
set_option maxRecDepth 100000
set_option maxHeartbeats 4000000
set_option autoImplicit false
/-! RfRows: rows that are right are rows. -/
namespace RF
open PySem (Str)
section
variable {Φ : Fns} {k c e : Nat} {a b q : Rat} {S : Sto} {d : D} {l m : List Nat} {r : Rows}
def places (r : Rows) : List Nat := r.map (·.1)
def PairOk (f : List D → M D) : Prop := ∀ (p : Nat × What) (S : Sto), isLet p.1 = true → whatOk p.2 → f [rowD p] S = .ok (.bl true) S
def LostOk (f : List D → M D) : Prop := ∀ (r : Rows) (S : Sto), (∀ p ∈ r, p.2.ne) → (∀ p ∈ r, ∀ l, p.2 = .arr l → l.length ≤ 1000) → r.length ≤ 900 → f [rowsD r] S = .ok (.lst ((lost r).map pd)) S
def bodyA : List RF.S := [(.iff (.and [(.not (.call 21 [(.var 3)])), (.bi .any [(.comp (.cmp .nin (.var 5) (.var 1)) (.nm 5) .seq [(.var 3)] [] [5])])]) [(.ret (some (.cst (.bl false))))] [])]
theorem rowsA {R o4 : Option D} {ps : List Nat} (hE : EndOk (Φ.fn 21)) : ∀ (r : Rows) (o2 o3 o5 : Option D), (∀ p ∈ r, p.2.ne) → (∀ p ∈ r, ∀ l, p.2 = .arr l → l.length ≤ 1000 ∧ ∀ t ∈ l, t ∈ ps) →
    ∃ o2' o3', forL (fF Φ fuel (.tup [.nm 2, .nm 3]) bodyA) (r.map rowD) [R, some (.lst (ps.map pd)), o2, o3, o4, o5] S = .ok (.nx [R, some (.lst (ps.map pd)), o2', o3', o4, o5]) S
  | [], o2, o3, o5, _, _ => ⟨o2, o3, rfl⟩
  | p :: r, o2, o3, o5, hn, hl => by
    obtain ⟨o2', o3', ih⟩ := rowsA (R := R) (o4 := o4) hE r (some (pd p.1)) (some p.2.d) o5 (fun x hx => hn x (List.mem_cons_of_mem _ hx)) (fun x hx => hl x (List.mem_cons_of_mem _ hx))
    refine ⟨o2', o3', ?_⟩
    have e1 := end_ok hE (hn p (by simp)) S
    rw [List.map_cons, for_cons]
    have h : fF Φ fuel (.tup [.nm 2, .nm 3]) bodyA (rowD p) [R, some (.lst (ps.map pd)), o2, o3, o4, o5] S = .ok (.nx [R, some (.lst (ps.map pd)), some (pd p.1), some p.2.d, o4, o5]) S := by
      unfold bodyA rowD
      cases ew : p.2 with
      | num q =>
        rw [ew] at e1
        simp [fF_run, e1, isNum]
      | arr l =>
        rw [ew] at e1
        obtain ⟨h1, h2⟩ := hl p (by simp) l ew
        have hll : l.length < line := by simp [line]; omega
        have hc : ∀ t ∈ l, kF Φ (.nm 5) [] (.cmp .nin (.var 5) (.var 1)) [5] [R, some (.lst (ps.map pd)), some (pd p.1), some (What.arr l).d, o4, o5] (pd t) S = .ok (some (.bl (!decide (t ∈ ps)))) S := by
          intro t _
          simp [kF_run, wipe, c_ninL]
        have h3 := comp_map1 hc
        have h4 : itemsOf .seq [(What.arr l).d] = some (l.map pd) := rfl
        have h5 : (l.map fun t => !decide (t ∈ ps)).any id = false := by
          rw [any_map_id, List.any_eq_false]
          intro t ht
          simp [h2 t ht]
        simp [fF_run, e1, isNum, h4, h3, hll, f_any bls_map, h5, -List.any_map, -List.any_eq_false, -List.any_eq_true]
    rw [h, go_ok]
    exact ih
theorem rows_ok (hG : Φ.gl 2 = .int 10) (hP : PairOk (Φ.fn 22)) (hA : AscOk (Φ.fn 19)) (hE : EndOk (Φ.fn 21)) (hL : LostOk (Φ.fn 23)) (h : RowsOk r) : g_are_rows Φ [rowsD r] S = .ok (.bl true) S := by
  have h4 : itemsOf .seq [rowsD r] = some (r.map rowD) := rfl
  have hlen := h.len
  have hline : (r.map rowD).length < line := by simp [line]; omega
  have hl1 : biD .len [rowsD r] S = .ok (.int r.length) S := len_rows r
  have hc1 : ∀ p ∈ r, kF Φ (.nm 4) [] (.call 22 [(.var 4)]) [4] [some (rowsD r), none, none, none, none, none] (rowD p) S = .ok (some (.bl true)) S := by
    intro p hp
    have e := hP p S (h.lets p hp) (h.what p hp)
    simp [kF_run, wipe, e]
  have h1 := comp_map1 hc1
  have h1' : (r.map fun _ => true).all id = true := by simp
  have i1 : isD Φ.nc S .tuple (rowsD r) = some true := rfl
  have hlt : r.length ≤ line := by simp [line]; omega
  have hlt' : r.length < line := by simp [line]; omega
  have hc2 : ∀ p ∈ r, kF Φ (.tup [.nm 2, .nm 3]) [] (.var 2) [2, 3] [some (rowsD r), none, none, none, none, none] (rowD p) S = .ok (some (pd p.1)) S := by
    intro p hp
    unfold rowD
    simp [kF_run, wipe]
  have h2 := comp_map1 hc2
  have e2 : (r.map fun p => pd p.1) = (places r).map pd := by unfold places; rw [List.map_map]; rfl
  rw [e2] at h2
  have h3 := hA.1 (places r) S (by unfold places; rw [List.length_map]; omega)
  rw [show asc (places r) = true from h.asc] at h3
  obtain ⟨o2', o3', h5⟩ := rowsA (Φ := Φ) (S := S) (R := some (rowsD r)) (o4 := none) (ps := places r) hE r none none none h.ne (fun p hp l e => ⟨h.short p hp l e, h.to p hp l e⟩)
  have h6 := hL r S h.ne h.short (by omega)
  rw [h.home] at h6
  have e0 : p_are_rows = [(.iff (.or [(.not (.isi (.var 0) .tuple)), (.not (.chain .le .le (.cst (.int 1)) (.bi .len [(.var 0)]) (.gl 2))), (.not (.bi .all [(.comp (.call 22 [(.var 4)]) (.nm 4) .seq [(.var 0)] [] [4])]))]) [(.ret (some (.cst (.bl false))))] []), (.asg (.nm 1) (.comp (.var 2) (.tup [(.nm 2), (.nm 3)]) .seq [(.var 0)] [] [2, 3])), (.iff (.not (.call 19 [(.var 1)])) [(.ret (some (.cst (.bl false))))] []), (.forr (.tup [(.nm 2), (.nm 3)]) .seq [(.var 0)] bodyA), (.ret (some (.cmp .eq (.bi .len [(.call 23 [(.var 0)])]) (.cst (.int 0)))))] := rfl
  have s1 : denS Φ fuel (.iff (.or [(.not (.isi (.var 0) .tuple)), (.not (.chain .le .le (.cst (.int 1)) (.bi .len [(.var 0)]) (.gl 2))), (.not (.bi .all [(.comp (.call 22 [(.var 4)]) (.nm 4) .seq [(.var 0)] [] [4])]))]) [(.ret (some (.cst (.bl false))))] []) [some (rowsD r), none, none, none, none, none] S = .ok (.nx [some (rowsD r), none, none, none, none, none]) S := by
    have g1 : (1 : Int) ≤ r.length := by omega
    have g2 : (r.length : Int) ≤ 10 := by omega
    simp [i1, hl1, hG, h4, h1, hlt', f_all (bls_map (p := fun _ => true)), h1', g1, g2]
  have s2 : denS Φ fuel (.asg (.nm 1) (.comp (.var 2) (.tup [(.nm 2), (.nm 3)]) .seq [(.var 0)] [] [2, 3])) [some (rowsD r), none, none, none, none, none] S = .ok (.nx [some (rowsD r), some (.lst ((places r).map pd)), none, none, none, none]) S := by
    simp [h4, h2, hlt']
  have s3 : denS Φ fuel (.iff (.not (.call 19 [(.var 1)])) [(.ret (some (.cst (.bl false))))] []) [some (rowsD r), some (.lst ((places r).map pd)), none, none, none, none] S = .ok (.nx [some (rowsD r), some (.lst ((places r).map pd)), none, none, none, none]) S := by
    simp [h3]
  have s4 : denS Φ fuel (.forr (.tup [(.nm 2), (.nm 3)]) .seq [(.var 0)] bodyA) [some (rowsD r), some (.lst ((places r).map pd)), none, none, none, none] S = .ok (.nx [some (rowsD r), some (.lst ((places r).map pd)), o2', o3', none, none]) S := by
    rw [s_for]
    simp [h4, h5]
  have s5 : denS Φ fuel (.ret (some (.cmp .eq (.bi .len [(.call 23 [(.var 0)])]) (.cst (.int 0))))) [some (rowsD r), some (.lst ((places r).map pd)), o2', o3', none, none] S = .ok (.rt (.bl true)) S := by
    simp [h6]
  unfold g_are_rows
  rw [runB_run, e0]
  simp only [List.map_cons, List.map_nil, List.length_cons, List.length_nil, List.cons_append, List.nil_append, show List.replicate (6 - (0 + 1)) (none : Option D) = [none, none, none, none, none] from rfl, ss_cons, s1, nxt_nx, s2, s3, s4, s5, nxt_rt, ret_rt]
end
end RF
end
section
set_option linter.all false
set_option maxRecDepth 100000
set_option maxHeartbeats 4000000
set_option autoImplicit false
/-! RfTab: tables: dicts from places to rationals. -/
namespace RF
open PySem (Str)
def tabL (ks : List Nat) (f : Nat → Rat) : List (Ky × D) := ks.map fun c => (.inr (sgn c), qd (f c))
def tabD (ks : List Nat) (f : Nat → Rat) : D := .dct (tabL ks f)
def minL (l : List Nat) (f : Nat → Rat) : Rat := match l with
  | [] => 0
  | x :: l => (l.map f).foldl minQ (f x)
def maxL (l : List Nat) (f : Nat → Rat) : Rat := match l with
  | [] => 0
  | x :: l => (l.map f).foldl maxQ (f x)
def halfQ (l : List Nat) (f : Nat → Rat) : Rat := (minL l f + maxL l f) / 2
/-- what stands at a place -/
def whatAt (r : Rows) (c : Nat) : What := match r.find? (fun p => p.1 == c) with
  | some p => p.2
  | none => .arr []
def What.val (f : Nat → Rat) : What → Rat
  | .num q => q
  | .arr l => halfQ l f
def stepQ (r : Rows) (f : Nat → Rat) (c : Nat) : Rat := (whatAt r c).val f
def isTab (r : Rows) (f : Nat → Rat) : Prop := ∀ p ∈ r, f p.1 = p.2.val f
section
variable {Φ : Fns} {k c e : Nat} {a b q : Rat} {S : Sto} {d : D} {l m ks js : List Nat} {r : Rows} {f g : Nat → Rat}
/-! ### ascending lists -/
theorem asc_cons {x y : Nat} {l : List Nat} (h : asc (x :: y :: l) = true) : x < y ∧ asc (y :: l) = true := by
  unfold asc at h ⊢
  rw [List.all_eq_true] at h
  constructor
  · have := h 0 (by simp)
    simpa using this
  · rw [List.all_eq_true]
    intro i hi
    have := h (i + 1) (by simp at hi ⊢; omega)
    simpa using this
theorem asc_pw : ∀ {l : List Nat}, asc l = true → l.Pairwise (· < ·)
  | [], _ => .nil
  | [x], _ => by simp
  | x :: y :: l, h => by
    obtain ⟨h1, h2⟩ := asc_cons h
    have ih := asc_pw h2
    refine List.pairwise_cons.mpr ⟨fun z hz => ?_, ih⟩
    rcases List.mem_cons.mp hz with e | e
    · subst e; exact h1
    · exact Nat.lt_trans h1 ((List.pairwise_cons.mp ih).1 z e)
theorem asc_nodup (h : asc l = true) : l.Nodup := (asc_pw h).imp fun h => Nat.ne_of_lt h
theorem pw_asc (h : l.Pairwise (· < ·)) : asc l = true := by
  unfold asc
  rw [List.all_eq_true]
  intro i hi
  have hi' : i + 1 < l.length := by have := List.mem_range.mp hi; omega
  have := List.pairwise_iff_getElem.mp h i (i + 1) (by omega) hi' (by omega)
  have e1 : i < l.length := by omega
  simp [List.getD, e1, hi', this]
theorem RowsOk.nodup (h : RowsOk r) : (places r).Nodup := asc_nodup h.asc
theorem whatAt_of {r : Rows} (h : (places r).Nodup) {p : Nat × What} (hp : p ∈ r) : whatAt r p.1 = p.2 := by
  unfold whatAt
  induction r with
  | nil => exact nomatch hp
  | cons x r ih =>
    unfold places at h
    rw [List.map_cons, List.nodup_cons] at h
    rw [List.find?_cons]
    rcases List.mem_cons.mp hp with e | e
    · subst e; simp
    · have : (x.1 == p.1) = false := by
        simp only [beq_eq_false_iff_ne]
        intro z
        exact h.1 (z ▸ List.mem_map_of_mem (f := (·.1)) e)
      rw [this]
      exact ih h.2 e
theorem mem_places {p : Nat × What} (hp : p ∈ r) : p.1 ∈ places r := List.mem_map_of_mem (f := (·.1)) hp
/-! ### dicts -/
theorem ky_eq : ((Sum.inr (sgn c) : Ky) = .inr (sgn e)) ↔ c = e := by
  constructor
  · intro h; exact sgn_inj.mp (Sum.inr.inj h)
  · intro h; rw [h]
theorem dget_tab : ∀ {ks : List Nat}, dget (tabL ks f) (.inr (sgn c)) = if c ∈ ks then some (qd (f c)) else none
  | [] => rfl
  | x :: ks => by
    show (if (Sum.inr (sgn x) : Ky) = .inr (sgn c) then some (qd (f x)) else dget (tabL ks f) (.inr (sgn c))) = _
    rw [dget_tab]
    by_cases z : x = c
    · subst z; simp
    · have : ¬ (Sum.inr (sgn x) : Ky) = .inr (sgn c) := fun h => z (ky_eq.mp h)
      rw [if_neg this]
      simp [show ¬ c = x from fun h => z h.symm]
theorem ixD_tab (h : c ∈ ks) : ixD S (tabD ks f) (pd c) = some (qd (f c)) := by
  show (keyOf (pd c)).bind (fun q => dget (tabL ks f) q) = _
  show dget (tabL ks f) (.inr (sgn c)) = _
  rw [dget_tab, if_pos h]
theorem ixF_tab (h : c ∈ ks) : ixF (tabD ks f) (pd c) S = .ok (qd (f c)) S := ixF_of (ixD_tab h)
theorem dput_new (h : c ∉ ks) : dput (tabL ks f) (.inr (sgn c)) (qd (g c)) = tabL ks f ++ [(.inr (sgn c), qd (g c))] := by
  unfold dput
  have : ((tabL ks f).any fun p => decide (p.1 = .inr (sgn c))) = false := by
    rw [List.any_eq_false]
    intro p hp
    obtain ⟨x, hx, rfl⟩ := List.mem_map.mp hp
    simp only [decide_eq_true_eq]
    intro z
    exact h (ky_eq.mp z ▸ hx)
  rw [this]
  rfl
theorem tabL_app : tabL (ks ++ js) f = tabL ks f ++ tabL js f := List.map_append
theorem dputs_tab : ∀ {js ks : List Nat}, (ks ++ js).Nodup → dputs (tabL ks f) (tabL js f) = tabL (ks ++ js) f
  | [], ks, _ => by rw [List.append_nil]; rfl
  | x :: js, ks, h => by
    show dputs (dput (tabL ks f) (.inr (sgn x)) (qd (f x))) (tabL js f) = _
    have hx : x ∉ ks := by
      intro z
      exact (List.nodup_append.mp h).2.2 x z x (by simp) rfl
    have e : tabL ks f ++ [(.inr (sgn x), qd (f x))] = tabL (ks ++ [x]) f := by rw [tabL_app]; rfl
    rw [dput_new hx, e, dputs_tab (by simpa using h)]
    congr 1
    simp
theorem pairs_tab : ∀ {ks : List Nat}, pairsOf (ks.map fun c => .tup [pd c, qd (f c)]) = some (tabL ks f)
  | [] => rfl
  | x :: ks => by
    show (match keyOf (pd x), pairsOf (ks.map fun c => .tup [pd c, qd (f c)]) with
      | some q, some m => some ((q, qd (f x)) :: m)
      | _, _ => none) = _
    rw [pairs_tab]
    rfl
theorem dict_tab (h : ks.Nodup) (hl : ks.length ≤ 1000) : biD .dict [.lst (ks.map fun c => .tup [pd c, qd (f c)])] S = .ok (tabD ks f) S := by
  have e : biD .dict [.lst (ks.map fun c => .tup [pd c, qd (f c)])] S = (match pairsOf (ks.map fun c => .tup [pd c, qd (f c)]) with
    | some m => if m.length ≤ line then pure (D.dct (dputs [] m)) else M.no
    | none => (M.no : M D)) S := rfl
  have hl2 : (tabL ks f).length ≤ line := by unfold tabL; rw [List.length_map]; simp [line]; omega
  have hd : dputs [] (tabL ks f) = tabL ks f := by simpa [tabL] using dputs_tab (f := f) (js := ks) (ks := []) (by simpa using h)
  rw [e, pairs_tab]
  simp only [if_pos hl2, hd]
  rfl
theorem eqv_qd : D.eqv (qd a) (qd b) = decide (a = b) := by
  have e : D.eqv (qd a) (qd b) = ((a.num == b.num) && (((a.den : Int) == b.den) && true)) := rfl
  rw [e, Bool.and_true]
  by_cases z : a = b
  · subst z; simp
  · rw [decide_eq_false z]
    by_cases y : a.num = b.num
    · have : (a.den : Int) ≠ b.den := fun w => z (Rat.ext y (by exact_mod_cast w))
      simp [y, this]
    · simp [y]
theorem ok_qd : okEq (qd a) (qd b) = true := rfl
theorem c_eqQ : cmpD .eq (qd a) (qd b) S = .ok (.bl (decide (a = b))) S := by
  have : cmpD .eq (qd a) (qd b) S = if okEq (qd a) (qd b) = true then .ok (.bl (D.eqv (qd a) (qd b))) S else .no := c_eqT
  rw [this, ok_qd, eqv_qd]; rfl
/-! ### ends_of, halved -/
def LeastOk (h : List Nat → (Nat → Rat) → Rat) (F : List D → M D) : Prop := ∀ (k : Nat) (l : List Nat) (f : Nat → Rat) (S : Sto), k ≤ 400000 → l ≠ [] → (∀ c ∈ l, sz k (f c)) → F [.lst (l.map fun c => qd (f c))] S = .ok (qd (h l f)) S
theorem least_L (h : LesserOk minQ (Φ.fn 10)) : LeastOk minL (g_least Φ) := by
  intro k l f S hk hl hs
  cases l with
  | nil => exact absurd rfl hl
  | cons x l =>
    have := least_ok (S := S) h hk (q := f x) (l := l.map f) (by
      intro y hy
      rcases List.mem_cons.mp hy with e | e
      · subst e; exact hs x (by simp)
      · obtain ⟨z, hz, rfl⟩ := List.mem_map.mp e
        exact hs z (List.mem_cons_of_mem _ hz))
    rw [List.map_cons, List.map_map] at this
    exact this
theorem greatest_L (h : LesserOk maxQ (Φ.fn 11)) : LeastOk maxL (g_greatest Φ) := by
  intro k l f S hk hl hs
  cases l with
  | nil => exact absurd rfl hl
  | cons x l =>
    have := greatest_ok (S := S) h hk (q := f x) (l := l.map f) (by
      intro y hy
      rcases List.mem_cons.mp hy with e | e
      · subst e; exact hs x (by simp)
      · obtain ⟨z, hz, rfl⟩ := List.mem_map.mp e
        exact hs z (List.mem_cons_of_mem _ hz))
    rw [List.map_cons, List.map_map] at this
    exact this
def EndsOfOk (F : List D → M D) : Prop := ∀ (k : Nat) (l ks : List Nat) (f : Nat → Rat) (S : Sto), k ≤ 400000 → l ≠ [] → l.length ≤ 1000 → (∀ c ∈ l, c ∈ ks ∧ sz k (f c)) → F [(What.arr l).d, tabD ks f] S = .ok (.tup [qd (minL l f), qd (maxL l f)]) S
theorem ends_ok (h1 : LeastOk minL (Φ.fn 13)) (h2 : LeastOk maxL (Φ.fn 14)) : EndsOfOk (g_ends_of Φ) := by
  intro k l ks f S hk h0 hl hs
  have hc : ∀ t ∈ l, kF Φ (.nm 3) [] (.ix (.var 1) (.var 3)) [3] [some (What.arr l).d, some (tabD ks f), none, none] (pd t) S = .ok (some (qd (f t))) S := by
    intro t ht
    simp [kF_run, wipe, ixF_tab (hs t ht).1]
  have e1 := comp_map1 hc
  have hll : l.length < line := by simp [line]; omega
  have h4 : itemsOf .seq [(What.arr l).d] = some (l.map pd) := rfl
  have e2 := h1 k l f S hk h0 fun c hc => (hs c hc).2
  have e3 := h2 k l f S hk h0 fun c hc => (hs c hc).2
  unfold g_ends_of p_ends_of
  simp [runB_run, h4, e1, hll, e2, e3]
theorem minQ_or (a b : Rat) : minQ a b = a ∨ minQ a b = b := by unfold minQ; split <;> simp
theorem maxQ_or (a b : Rat) : maxQ a b = a ∨ maxQ a b = b := by unfold maxQ; split <;> simp
theorem fold_mem {op : Rat → Rat → Rat} (h : ∀ a b, op a b = a ∨ op a b = b) : ∀ (l : List Rat) (q : Rat), l.foldl op q ∈ q :: l
  | [], q => by simp
  | x :: l, q => by
    have := fold_mem h l (op q x)
    rw [List.foldl_cons]
    rcases List.mem_cons.mp this with e | e
    · rw [e]
      rcases h q x with z | z <;> rw [z] <;> simp
    · simp [e]
theorem minL_mem (h : l ≠ []) : ∃ c ∈ l, minL l f = f c := by
  cases l with
  | nil => exact absurd rfl h
  | cons x l =>
    have := fold_mem minQ_or (l.map f) (f x)
    rw [← List.map_cons] at this
    obtain ⟨c, hc, e⟩ := List.mem_map.mp this
    exact ⟨c, hc, e.symm⟩
theorem maxL_mem (h : l ≠ []) : ∃ c ∈ l, maxL l f = f c := by
  cases l with
  | nil => exact absurd rfl h
  | cons x l =>
    have := fold_mem maxQ_or (l.map f) (f x)
    rw [← List.map_cons] at this
    obtain ⟨c, hc, e⟩ := List.mem_map.mp this
    exact ⟨c, hc, e.symm⟩
theorem minQ_le (a b : Rat) : minQ a b ≤ a ∧ minQ a b ≤ b := by
  unfold minQ
  split
  · rename_i h; exact ⟨Rat.le_of_lt h, Rat.le_refl⟩
  · rename_i h; exact ⟨Rat.le_refl, Rat.not_lt.mp h⟩
theorem maxQ_le (a b : Rat) : a ≤ maxQ a b ∧ b ≤ maxQ a b := by
  unfold maxQ
  split
  · rename_i h; exact ⟨Rat.le_of_lt h, Rat.le_refl⟩
  · rename_i h; exact ⟨Rat.le_refl, Rat.not_lt.mp h⟩
theorem foldMin_le : ∀ (l : List Rat) (q : Rat), l.foldl minQ q ≤ q ∧ ∀ x ∈ l, l.foldl minQ q ≤ x
  | [], q => ⟨Rat.le_refl, fun _ h => nomatch h⟩
  | y :: l, q => by
    obtain ⟨h1, h2⟩ := foldMin_le l (minQ q y)
    rw [List.foldl_cons]
    refine ⟨Rat.le_trans h1 (minQ_le q y).1, fun x hx => ?_⟩
    rcases List.mem_cons.mp hx with e | e
    · subst e; exact Rat.le_trans h1 (minQ_le q x).2
    · exact h2 x e
theorem foldMax_le : ∀ (l : List Rat) (q : Rat), q ≤ l.foldl maxQ q ∧ ∀ x ∈ l, x ≤ l.foldl maxQ q
  | [], q => ⟨Rat.le_refl, fun _ h => nomatch h⟩
  | y :: l, q => by
    obtain ⟨h1, h2⟩ := foldMax_le l (maxQ q y)
    rw [List.foldl_cons]
    refine ⟨Rat.le_trans (maxQ_le q y).1 h1, fun x hx => ?_⟩
    rcases List.mem_cons.mp hx with e | e
    · subst e; exact Rat.le_trans (maxQ_le q x).2 h1
    · exact h2 x e
theorem minL_le (h : c ∈ l) : minL l f ≤ f c := by
  cases l with
  | nil => exact nomatch h
  | cons x l =>
    obtain ⟨h1, h2⟩ := foldMin_le (l.map f) (f x)
    rcases List.mem_cons.mp h with e | e
    · subst e; exact h1
    · exact h2 _ (List.mem_map_of_mem e)
theorem maxL_le (h : c ∈ l) : f c ≤ maxL l f := by
  cases l with
  | nil => exact nomatch h
  | cons x l =>
    obtain ⟨h1, h2⟩ := foldMax_le (l.map f) (f x)
    rcases List.mem_cons.mp h with e | e
    · subst e; exact h1
    · exact h2 _ (List.mem_map_of_mem e)
theorem sz_minL (h : l ≠ []) (hs : ∀ c ∈ l, sz k (f c)) : sz k (minL l f) := by
  obtain ⟨c, hc, e⟩ := minL_mem (f := f) h
  rw [e]; exact hs c hc
theorem sz_maxL (h : l ≠ []) (hs : ∀ c ∈ l, sz k (f c)) : sz k (maxL l f) := by
  obtain ⟨c, hc, e⟩ := maxL_mem (f := f) h
  rw [e]; exact hs c hc
/-- the size of a sum -/
theorem sz_mk {t : Int} {n : Nat} (hn : n ≠ 0) (h1 : t.natAbs < 2 ^ k) (h2 : n < 2 ^ k) : sz k (mkRat t n) := by
  constructor
  · rw [Rat.num_mkRat, if_neg hn]
    exact Nat.lt_of_le_of_lt (Int.natAbs_ediv_le_natAbs _ _) h1
  · rw [Rat.den_mkRat, if_neg hn]
    exact Nat.lt_of_le_of_lt (Nat.div_le_self _ _) h2
theorem sz_add (ha : sz k a) (hb : sz k b) : sz (2 * k + 1) (a + b) := by
  rw [Rat.add_def']
  have e : (2 : Nat) ^ (2 * k + 1) = 2 ^ k * 2 ^ k + 2 ^ k * 2 ^ k := by
    rw [Nat.pow_succ, Nat.two_mul, Nat.pow_add]; omega
  have h1 : a.num.natAbs * b.den < 2 ^ k * 2 ^ k := Nat.mul_lt_mul'' ha.1 hb.2
  have h2 : b.num.natAbs * a.den < 2 ^ k * 2 ^ k := Nat.mul_lt_mul'' hb.1 ha.2
  have h3 : a.den * b.den < 2 ^ k * 2 ^ k := Nat.mul_lt_mul'' ha.2 hb.2
  refine sz_mk (Nat.mul_ne_zero a.den_nz b.den_nz) ?_ ?_
  · refine Nat.lt_of_le_of_lt (Int.natAbs_add_le _ _) ?_
    rw [Int.natAbs_mul, Int.natAbs_mul, Int.natAbs_natCast, Int.natAbs_natCast]
    omega
  · omega
theorem sz_half (ha : sz k a) : sz (k + 1) (a / 2) := by
  rw [half_eq]
  have e : (2 : Nat) ^ (k + 1) = 2 ^ k + 2 ^ k := by rw [Nat.pow_succ]; omega
  have := ha.1
  have := ha.2
  have := a.den_pos
  exact sz_mk (by omega) (by omega) (by omega)
def AddOk (h : Rat → Rat → Rat) (F : List D → M D) : Prop := ∀ (k : Nat) (a b : Rat) (S : Sto), k ≤ 4000 → sz k a → sz k b → F [qd a, qd b] S = .ok (qd (h a b)) S
def HalfOk (F : List D → M D) : Prop := ∀ (k : Nat) (a : Rat) (S : Sto), k ≤ 4000 → sz k a → F [qd a] S = .ok (qd (a / 2)) S
def HalvedOk (F : List D → M D) : Prop := ∀ (k : Nat) (l ks : List Nat) (f : Nat → Rat) (S : Sto), k ≤ 1900 → l ≠ [] → l.length ≤ 1000 → (∀ c ∈ l, c ∈ ks ∧ sz k (f c)) → F [(What.arr l).d, tabD ks f] S = .ok (qd (halfQ l f)) S
theorem halved_ok (h1 : EndsOfOk (Φ.fn 48)) (h2 : AddOk (· + ·) (Φ.fn 5)) (h3 : HalfOk (Φ.fn 12)) : HalvedOk (g_halved Φ) := by
  intro k l ks f S hk h0 hl hs
  have e1 := h1 k l ks f S (by omega) h0 hl hs
  have z1 := sz_minL h0 fun c hc => (hs c hc).2
  have z2 := sz_maxL h0 fun c hc => (hs c hc).2
  have e2 := h2 k _ _ S (by omega) z1 z2
  have e3 := h3 (2 * k + 1) _ S (by omega) (sz_add z1 z2)
  unfold g_halved p_halved halfQ
  simp [runB_run, e1, e2, e3]
end
end RF
end
section
set_option linter.all false
set_option maxRecDepth 100000
set_option maxHeartbeats 4000000
set_option autoImplicit false
/-! RfHome: which places lead home, once more; rows with what stands at a place otherwise. -/
namespace RF
open PySem (Str)
/-- from this place some arrows lead to an end -/
inductive Reach (r : Rows) : Nat → Prop
  | num {c : Nat} {q : Rat} : (c, What.num q) ∈ r → Reach r c
  | arr {c t : Nat} {l : List Nat} : (c, What.arr l) ∈ r → t ∈ l → Reach r t → Reach r c
section
variable {r r' : Rows}
theorem homePass_sound : ∀ {r' : Rows} {home : List Nat}, (∀ p ∈ r', p ∈ r) → (∀ x ∈ home, Reach r x) → ∀ x ∈ homePass r' home, Reach r x
  | [], home, _, h => h
  | (c, w) :: r', home, hs, h => by
    refine homePass_sound (r' := r') (home := homeStep home (c, w)) (fun p hp => hs p (List.mem_cons_of_mem _ hp)) fun x hx => ?_
    have hm := hs (c, w) (by simp)
    unfold homeStep at hx
    cases w with
    | num q => exact h x hx
    | arr l =>
      dsimp only at hx
      split at hx
      · rename_i z
        rcases List.mem_append.mp hx with y | y
        · exact h x y
        · have e : x = c := by simpa using y
          subst e
          obtain ⟨t, ht, hth⟩ := List.any_eq_true.mp z.2
          exact .arr hm ht (h t (by simpa using hth))
      · exact h x hx
theorem homeAfter_sound : ∀ (n : Nat), ∀ x ∈ homeAfter r n, Reach r x
  | 0, x, hx => by
    obtain ⟨⟨c, w⟩, hp, rfl⟩ := List.mem_map.mp hx
    obtain ⟨hp, hn⟩ := List.mem_filter.mp hp
    cases w with
    | num q => exact .num hp
    | arr l => cases hn
  | n + 1, x, hx => homePass_sound (fun _ h => h) (homeAfter_sound n) x hx
def Closed (r : Rows) (home : List Nat) : Prop := ∀ c l, (c, What.arr l) ∈ r → ∀ t ∈ l, t ∈ home → c ∈ home
theorem homePass_same {home : List Nat} : ∀ {r' : Rows}, Closed r' home → homePass r' home = home
  | [], _ => rfl
  | (c, w) :: r', h => by
    have e : homeStep home (c, w) = home := by
      unfold homeStep
      cases w with
      | num q => rfl
      | arr l =>
        dsimp only
        split
        · rename_i z
          obtain ⟨t, ht, hth⟩ := List.any_eq_true.mp z.2
          exact absurd (h c l (by simp) t ht (by simpa using hth)) z.1
        · rfl
    show homePass r' (homeStep home (c, w)) = home
    rw [e]
    exact homePass_same fun c' l' hm => h c' l' (List.mem_cons_of_mem _ hm)
theorem filter_lt {α : Type} {p q : α → Bool} : ∀ {l : List α}, (∀ x ∈ l, q x = true → p x = true) → (∃ x ∈ l, p x = true ∧ q x = false) → (l.filter q).length < (l.filter p).length
  | [], _, ⟨x, hx, _⟩ => nomatch hx
  | y :: l, hs, ⟨x, hx, hp, hq⟩ => by
    have hle : ∀ (l : List α), (∀ x ∈ l, q x = true → p x = true) → (l.filter q).length ≤ (l.filter p).length := by
      intro l
      induction l with
      | nil => intro _; simp
      | cons z l ih =>
        intro h
        have i := ih fun x hx => h x (List.mem_cons_of_mem _ hx)
        have hz := h z (by simp)
        cases eq : q z with
        | false => rw [List.filter_cons_of_neg (by simp [eq])]; cases ep : p z <;> simp [List.filter_cons, ep] <;> omega
        | true => simp [List.filter_cons, eq, hz eq]; omega
    rcases List.mem_cons.mp hx with e | e
    · subst e
      have := hle l fun z hz => hs z (List.mem_cons_of_mem _ hz)
      simp [List.filter_cons, hp, hq]
      omega
    · have ih := filter_lt (fun z hz => hs z (List.mem_cons_of_mem _ hz)) ⟨x, e, hp, hq⟩
      have hy := hs y (by simp)
      cases eq : q y with
      | false => rw [List.filter_cons_of_neg (by simp [eq])]; cases ep : p y <;> simp [List.filter_cons, ep] <;> omega
      | true => simp [List.filter_cons, eq, hy eq]; omega
/-- how many rows are not home -/
def unf (r : Rows) (home : List Nat) : Nat := (r.filter fun p => !decide (p.1 ∈ home)).length
theorem home_closed : ∀ (n : Nat), Closed r (homeAfter r n) ∨ unf r (homeAfter r n) + n ≤ r.length
  | 0 => .inr (by unfold unf; exact List.length_filter_le _ _)
  | n + 1 => by
    rcases home_closed n with h | h
    · left
      show Closed r (homePass r (homeAfter r n))
      rw [homePass_same h]
      exact h
    · by_cases hc : Closed r (homeAfter r n)
      · left
        show Closed r (homePass r (homeAfter r n))
        rw [homePass_same hc]
        exact hc
      · right
        obtain ⟨c, l, hm, t, ht, hth, hn⟩ : ∃ c l, (c, What.arr l) ∈ r ∧ ∃ t ∈ l, t ∈ homeAfter r n ∧ c ∉ homeAfter r n := by
          refine Classical.byContradiction fun z => hc fun c l hm t ht hth => Classical.byContradiction fun y => z ⟨c, l, hm, t, ht, hth, y⟩
        have hg : c ∈ homePass r (homeAfter r n) := homePass_get (p := (c, What.arr l)) rfl ht hm hth
        have : unf r (homePass r (homeAfter r n)) < unf r (homeAfter r n) := by
          refine filter_lt (fun x _ hx => ?_) ⟨(c, What.arr l), hm, by simpa using hn, by simpa using hg⟩
          have hx' : x.1 ∉ homePass r (homeAfter r n) := by simpa using hx
          have : x.1 ∉ homeAfter r n := fun z => hx' (homePass_sub z)
          simpa using this
        show unf r (homePass r (homeAfter r n)) + (n + 1) ≤ _
        omega
theorem home_end : Closed r (homeAfter r r.length) := by
  rcases home_closed (r := r) r.length with h | h
  · exact h
  · have h0 : unf r (homeAfter r r.length) = 0 := by omega
    intro c l hm t ht hth
    have : (c, What.arr l) ∉ r.filter fun p => !decide (p.1 ∈ homeAfter r r.length) := by
      rw [List.eq_nil_of_length_eq_zero h0]
      simp
    have z : ¬ (c ∉ homeAfter r r.length) := fun y => this (List.mem_filter.mpr ⟨hm, by simpa using y⟩)
    exact Classical.not_not.mp z
theorem reach_home {x : Nat} (h : Reach r x) : x ∈ homeAfter r r.length := by
  induction h with
  | num hm => exact homeAfter_num _ hm rfl
  | arr hm ht _ ih => exact home_end _ _ hm _ ht ih
theorem home_iff {x : Nat} : x ∈ homeAfter r r.length ↔ Reach r x := ⟨homeAfter_sound _ x, reach_home⟩
theorem mem_lost {x : Nat} : x ∈ lost r ↔ x ∈ places r ∧ ¬ Reach r x := by
  unfold lost places
  rw [List.mem_map]
  constructor
  · rintro ⟨p, hp, rfl⟩
    obtain ⟨h1, h2⟩ := List.mem_filter.mp hp
    exact ⟨List.mem_map_of_mem h1, fun z => by
      have := home_iff.mpr z
      simp [this] at h2⟩
  · rintro ⟨h1, h2⟩
    obtain ⟨p, hp, rfl⟩ := List.mem_map.mp h1
    exact ⟨p, List.mem_filter.mpr ⟨hp, by
      have : p.1 ∉ homeAfter r r.length := fun z => h2 (home_iff.mp z)
      simpa using this⟩, rfl⟩
theorem lost_nil : lost r = [] ↔ ∀ x ∈ places r, Reach r x := by
  constructor
  · intro h x hx
    refine Classical.byContradiction fun z => ?_
    have := mem_lost.mpr ⟨hx, z⟩
    rw [h] at this
    exact nomatch this
  · intro h
    refine List.eq_nil_iff_forall_not_mem.mpr fun x hx => ?_
    obtain ⟨h1, h2⟩ := mem_lost.mp hx
    exact h2 (h x h1)
/-! ### something else at a place -/
def setAt (r : Rows) (c : Nat) (w : What) : Rows := r.map fun p => (p.1, if p.1 = c then w else p.2)
/-- rows but for the way home -/
structure PreOk (r : Rows) : Prop where
  len : 1 ≤ r.length ∧ r.length ≤ 10
  lets : ∀ p ∈ r, isLet p.1 = true
  what : ∀ p ∈ r, whatOk p.2
  asc : asc (r.map (·.1)) = true
  to : ∀ p ∈ r, ∀ l, p.2 = .arr l → ∀ t ∈ l, t ∈ r.map (·.1)
theorem PreOk.ne (h : PreOk r) : ∀ p ∈ r, p.2.ne := fun p hp => by
  have := h.what p hp
  cases e : p.2 with
  | num q => trivial
  | arr l => rw [e] at this; exact this.1
theorem PreOk.short (h : PreOk r) : ∀ p ∈ r, ∀ l, p.2 = .arr l → l.length ≤ 1000 := fun p hp l e => by
  have := h.what p hp
  rw [e] at this
  exact this.2.1
theorem PreOk.nodup (h : PreOk r) : (places r).Nodup := asc_nodup h.asc
end
end RF
end
section
set_option linter.all false
set_option maxRecDepth 100000
set_option maxHeartbeats 4000000
set_option autoImplicit false
/-! RfPol: one side's way leads home: two tables compared; better and better ways. Plain Lean. -/
namespace RF
/-- places, arrows (none at an end), the ends' numbers -/
structure Net where
  P : List Nat
  A : Nat → List Nat
  w : Nat → Rat
namespace Net
variable {N : Net} {f s g : Nat → Nat} {x y z : Nat → Rat}
structure Ok (N : Net) : Prop where
  cl : ∀ p ∈ N.P, ∀ t ∈ N.A p, t ∈ N.P
  len : N.P.length ≤ 10
  short : ∀ p ∈ N.P, (N.A p).length ≤ 1000
def Pol (N : Net) (f : Nat → Nat) : Prop := ∀ p ∈ N.P, N.A p ≠ [] → f p ∈ N.A p
def Home (N : Net) (f : Nat → Nat) : Prop := ∃ h : Nat → Nat, ∀ p ∈ N.P, N.A p ≠ [] → h (f p) < h p
def Sol (N : Net) (f s : Nat → Nat) (x : Nat → Rat) : Prop := ∀ p ∈ N.P, (N.A p = [] → x p = N.w p) ∧ (N.A p ≠ [] → x p = (x (f p) + x (s p)) / 2)
def Sub (N : Net) (f s : Nat → Nat) (x : Nat → Rat) : Prop := ∀ p ∈ N.P, (N.A p = [] → x p ≤ N.w p) ∧ (N.A p ≠ [] → x p ≤ (x (f p) + x (s p)) / 2)
def Sup (N : Net) (f s : Nat → Nat) (x : Nat → Rat) : Prop := ∀ p ∈ N.P, (N.A p = [] → N.w p ≤ x p) ∧ (N.A p ≠ [] → (x (f p) + x (s p)) / 2 ≤ x p)
theorem Sol.sub (h : N.Sol f s x) : N.Sub f s x := fun p hp => ⟨fun e => by rw [(h p hp).1 e]; exact Rat.le_refl, fun e => by rw [← (h p hp).2 e]; exact Rat.le_refl⟩
theorem exists_max (d : Nat → Rat) : ∀ {l : List Nat}, l ≠ [] → ∃ p ∈ l, ∀ q ∈ l, d q ≤ d p
  | [], h => absurd rfl h
  | [a], _ => ⟨a, by simp, fun q hq => by rw [List.mem_singleton.mp hq]; exact Rat.le_refl⟩
  | a :: b :: l, _ => by
    obtain ⟨p, hp, h⟩ := exists_max d (l := b :: l) (by simp)
    by_cases c : d p ≤ d a
    · refine ⟨a, by simp, fun q hq => ?_⟩
      rcases List.mem_cons.mp hq with e | e
      · rw [e]; exact Rat.le_refl
      · exact Rat.le_trans (h q e) c
    · refine ⟨p, List.mem_cons_of_mem _ hp, fun q hq => ?_⟩
      rcases List.mem_cons.mp hq with e | e
      · rw [e]; exact Rat.le_of_lt (Rat.not_le.mp c)
      · exact h q e
/-- what is less at each step is less -/
theorem comp (hN : N.Ok) (hf : N.Pol f) (hs : N.Pol s) (hh : N.Home f) (hx : N.Sub f s x) (hy : N.Sup f s y) : ∀ p ∈ N.P, x p ≤ y p := by
  intro p0 hp0
  obtain ⟨h, hr⟩ := hh
  obtain ⟨m, hm, hmax⟩ := exists_max (fun p => x p - y p) (l := N.P) (fun e => by rw [e] at hp0; cases hp0)
  have key : ∀ n p, h p ≤ n → p ∈ N.P → x p - y p = x m - y m → x m - y m ≤ 0 := by
    intro n
    induction n with
    | zero =>
      intro p hn hp e
      by_cases z : N.A p = []
      · have h1 := (hx p hp).1 z
        have h2 := (hy p hp).1 z
        grind
      · have := hr p hp z
        omega
    | succ n ih =>
      intro p hn hp e
      by_cases z : N.A p = []
      · have h1 := (hx p hp).1 z
        have h2 := (hy p hp).1 z
        grind
      · have h1 := (hx p hp).2 z
        have h2 := (hy p hp).2 z
        have m1 := hN.cl p hp _ (hf p hp z)
        have m2 := hN.cl p hp _ (hs p hp z)
        have a1 := hmax _ m1
        have a2 := hmax _ m2
        have := hr p hp z
        refine ih (f p) (by omega) m1 ?_
        grind
  have h1 := key _ m (Nat.le_refl _) hm rfl
  have h2 := hmax p0 hp0
  grind
/-! ### all ways -/
/-- on the places at most, somewhere less -/
def Lt (N : Net) (x y : Nat → Rat) : Prop := (∀ p ∈ N.P, x p ≤ y p) ∧ ∃ p ∈ N.P, x p < y p
theorem Lt.trans (h : N.Lt x y) (h' : N.Lt y z) : N.Lt x z := by
  refine ⟨fun p hp => Rat.le_trans (h.1 p hp) (h'.1 p hp), ?_⟩
  obtain ⟨p, hp, hl⟩ := h.2
  have := h'.1 p hp
  exact ⟨p, hp, by grind⟩
/-! ### one side's way is given: the other one's -/
/-- where to, with the greatest number -/
def arg (l : List Nat) (x : Nat → Rat) (v : Rat) : Nat := match l.filter fun t => decide (x t = v) with
  | [] => 0
  | t :: _ => t
/-! ### the first side's way -/
/-! ### there is one table alone -/
end Net
end RF
end
section
set_option linter.all false
set_option maxRecDepth 100000
set_option maxHeartbeats 4000000
set_option autoImplicit false
/-! RfAcc: tables of rows: table_in, is_table, begun, moved. -/
namespace RF
open PySem (Str)
def endsP (r : Rows) : List Nat := (r.filter fun p => isNum p.2).map (·.1)
def innerP (r : Rows) : List Nat := (r.filter fun p => !isNum p.2).map (·.1)
def What.val0 (v : Rat) : What → Rat
  | .num q => q
  | .arr _ => v
/-- within no moves -/
def beginQ (r : Rows) (v : Rat) (c : Nat) : Rat := (whatAt r c).val0 v
def iterQ (r : Rows) (v : Rat) : Nat → Nat → Rat
  | 0 => beginQ r v
  | n + 1 => stepQ r (iterQ r v n)
section
variable {Φ : Fns} {k c e n : Nat} {a b q v : Rat} {S : Sto} {d : D} {l m ks js : List Nat} {r : Rows} {f g : Nat → Rat}
@[simp] theorem ixF_T2 {x y z : D} {l : List D} : ixF (.tup (x :: y :: z :: l)) (.int 2) S = .ok z S := ixF_of (by simp [ixD, atI, ixOf, show (2 : Int) < (l.length : Int) + 1 + 1 + 1 by omega])
@[simp] theorem ixF_T3 {x y z w : D} {l : List D} : ixF (.tup (x :: y :: z :: w :: l)) (.int 3) S = .ok w S := ixF_of (by simp [ixD, atI, ixOf, show (3 : Int) < (l.length : Int) + 1 + 1 + 1 + 1 by omega])
@[simp] theorem ixF_T4 {x y z w u : D} {l : List D} : ixF (.tup (x :: y :: z :: w :: u :: l)) (.int 4) S = .ok u S := ixF_of (by simp [ixD, atI, ixOf, show (4 : Int) < (l.length : Int) + 1 + 1 + 1 + 1 + 1 by omega])
@[simp] theorem ixF_T5 {x y z w u t : D} {l : List D} : ixF (.tup (x :: y :: z :: w :: u :: t :: l)) (.int 5) S = .ok t S := ixF_of (by simp [ixD, atI, ixOf, show (5 : Int) < (l.length : Int) + 1 + 1 + 1 + 1 + 1 + 1 by omega])
theorem kids_pre (h : RowsOk r) {p : Nat × What} (hp : p ∈ r) {l : List Nat} (e : p.2 = .arr l) : l ≠ [] ∧ l.length ≤ 1000 ∧ ∀ c ∈ l, c ∈ places r := by
  have h1 := h.what p hp
  rw [e] at h1
  exact ⟨h1.1, h1.2.1, h.to p hp l e⟩
/-- the value that a row wants -/
theorem row_val (hE : EndOk (Φ.fn 21)) (hH : HalvedOk (Φ.fn 55)) (hk : k ≤ 1900) (hr : RowsOk r) (hs : ∀ c ∈ places r, sz k (f c)) (hks : ∀ c ∈ places r, c ∈ ks) {p : Nat × What} (hp : p ∈ r) {i j : Nat} {δ : En} (h1 : δ[i]? = some (some p.2.d)) (h2 : δ[j]? = some (some (tabD ks f))) :
    denX Φ (.ite (.call 21 [(.var i)]) (.var i) (.call 55 [(.var i), (.var j)])) δ S = .ok (qd (p.2.val f)) S := by
  have e1 := end_ok hE (hr.ne p hp) S
  cases ew : p.2 with
  | num q =>
    rw [ew] at e1 h1
    simp [h1, e1, isNum, What.val]; rfl
  | arr l =>
    rw [ew] at e1 h1
    obtain ⟨k1, k2, k3⟩ := kids_pre hr hp ew
    have e2 := hH k l ks f S hk k1 k2 fun c hc => ⟨hks c (k3 c hc), hs c (k3 c hc)⟩
    simp [h1, h2, e1, isNum, e2, What.val]
/-! ### begun, moved -/
def EndsInOk (F : List D → M D) : Prop := ∀ (r : Rows) (v : Rat) (S : Sto), RowsOk r → F [rowsD r] S = .ok (tabD (endsP r) (beginQ r v)) S
theorem endsIn_ok (hE : EndOk (Φ.fn 21)) : EndsInOk (g_ends_in Φ) := by
  intro r v S hr
  have hlen := hr.len
  have hline : r.length < line := by simp [line]; omega
  have h4 : itemsOf .seq [rowsD r] = some (r.map rowD) := rfl
  have hc1 : ∀ p ∈ r, kF Φ (.tup [.nm 1, .nm 2]) [(.call 21 [(.var 2)])] (.tup [(.var 1), (.var 2)]) [1, 2] [some (rowsD r), none, none] (rowD p) S = .ok (if isNum p.2 = true then some (.tup [pd p.1, p.2.d]) else none) S := by
    intro p hp
    have e := end_ok hE (hr.ne p hp) S
    unfold rowD
    cases z : isNum p.2 <;> simp [kF_run, wipe, e, z]
  have h1 := comp_map hc1
  rw [filter_comp (fun p : Nat × What => isNum p.2) (fun p => .tup [pd p.1, p.2.d])] at h1
  have e1 : ((r.filter fun p => isNum p.2).map fun p => D.tup [pd p.1, p.2.d]) = (endsP r).map fun c => .tup [pd c, qd (beginQ r v c)] := by
    unfold endsP
    rw [List.map_map]
    refine List.map_congr_left fun p hp => ?_
    obtain ⟨hp1, hp2⟩ := List.mem_filter.mp hp
    show _ = D.tup [pd p.1, qd (beginQ r v p.1)]
    unfold beginQ
    rw [whatAt_of hr.nodup hp1]
    cases ew : p.2 with
    | num q => rfl
    | arr l => rw [ew] at hp2; cases hp2
  rw [e1] at h1
  have hn : (endsP r).Nodup := by
    unfold endsP
    exact (List.Sublist.map _ (List.filter_sublist)).nodup hr.nodup
  have hl : (endsP r).length ≤ 1000 := by
    have : (endsP r).length ≤ r.length := by unfold endsP; rw [List.length_map]; exact List.length_filter_le _ _
    omega
  have e4 := dict_tab (f := beginQ r v) (S := S) hn hl
  unfold g_ends_in p_ends_in
  simp [runN_run, h4, h1, hline, e4]
theorem setIx_tab {i : Nat} {δ : En} (h : c ∉ ks) (hl : ks.length ≤ 1000) (e : q = f c) : setIxF i (tabD ks f) (pd c) (qd q) δ S = .ok (.nx (δ.set i (some (tabD (ks ++ [c]) f)))) S := by
  subst e
  have e1 : setIxF i (tabD ks f) (pd c) (qd (f c)) δ S = if (tabL ks f).length < line then .ok (.nx (δ.set i (some (.dct (dput (tabL ks f) (.inr (sgn c)) (qd (f c))))))) S else .no := ite_run
  have hl2 : (tabL ks f).length < line := by unfold tabL; rw [List.length_map]; simp [line]; omega
  rw [e1, if_pos hl2, dput_new h]
  have : tabL ks f ++ [(.inr (sgn c), qd (f c))] = tabL (ks ++ [c]) f := by rw [tabL_app]; rfl
  rw [this]
  rfl
def bodyB : List RF.S := [(.iff (.not (.call 21 [(.var 4)])) [(.setIx 2 (.var 3) (.var 1))] [])]
theorem rowsB {R : Option D} (hE : EndOk (Φ.fn 21)) (hr : RowsOk r) : ∀ (r' : Rows) (ks : List Nat) (o3 o4 : Option D), (∀ p ∈ r', p ∈ r) → (ks ++ innerP r').Nodup → ks.length + r'.length ≤ 900 →
    ∃ o3' o4', forL (fF Φ fuel (.tup [.nm 3, .nm 4]) bodyB) (r'.map rowD) [R, some (qd v), some (tabD ks (beginQ r v)), o3, o4] S = .ok (.nx [R, some (qd v), some (tabD (ks ++ innerP r') (beginQ r v)), o3', o4']) S
  | [], ks, o3, o4, _, _, _ => ⟨o3, o4, by rw [show innerP [] = [] from rfl, List.append_nil]; rfl⟩
  | p :: r', ks, o3, o4, hsub, hn, hl => by
    have hp := hsub p (by simp)
    have e1 := end_ok hE (hr.ne p hp) S
    rw [List.length_cons] at hl
    rw [List.map_cons, for_cons]
    cases z : isNum p.2 with
    | true =>
      have e3 : innerP (p :: r') = innerP r' := by unfold innerP; rw [List.filter_cons]; simp [z]
      rw [e3] at hn ⊢
      obtain ⟨o3', o4', ih⟩ := rowsB (R := R) hE hr r' ks (some (pd p.1)) (some p.2.d) (fun x hx => hsub x (List.mem_cons_of_mem _ hx)) hn (by omega)
      refine ⟨o3', o4', ?_⟩
      have h : fF Φ fuel (.tup [.nm 3, .nm 4]) bodyB (rowD p) [R, some (qd v), some (tabD ks (beginQ r v)), o3, o4] S = .ok (.nx [R, some (qd v), some (tabD ks (beginQ r v)), some (pd p.1), some p.2.d]) S := by
        unfold bodyB rowD
        simp [fF_run, e1, z]
      rw [h, go_ok]
      exact ih
    | false =>
      have e3 : innerP (p :: r') = p.1 :: innerP r' := by unfold innerP; rw [List.filter_cons]; simp [z]
      rw [e3] at hn ⊢
      have hnot : p.1 ∉ ks := fun y => (List.nodup_append.mp hn).2.2 _ y _ (by simp) rfl
      have e4 : ks ++ p.1 :: innerP r' = ks ++ [p.1] ++ innerP r' := by simp
      rw [e4] at hn ⊢
      obtain ⟨o3', o4', ih⟩ := rowsB (R := R) hE hr r' (ks ++ [p.1]) (some (pd p.1)) (some p.2.d) (fun x hx => hsub x (List.mem_cons_of_mem _ hx)) hn (by simp; omega)
      refine ⟨o3', o4', ?_⟩
      have hv : v = beginQ r v p.1 := by
        unfold beginQ
        rw [whatAt_of hr.nodup hp]
        cases ew : p.2 with
        | num q => rw [ew] at z; cases z
        | arr l => rfl
      have hset : ∀ δ : En, setIxF 2 (tabD ks (beginQ r v)) (pd p.1) (qd v) δ S = .ok (.nx (δ.set 2 (some (tabD (ks ++ [p.1]) (beginQ r v))))) S := fun δ => setIx_tab hnot (by omega) hv
      have h : fF Φ fuel (.tup [.nm 3, .nm 4]) bodyB (rowD p) [R, some (qd v), some (tabD ks (beginQ r v)), o3, o4] S = .ok (.nx [R, some (qd v), some (tabD (ks ++ [p.1]) (beginQ r v)), some (pd p.1), some p.2.d]) S := by
        unfold bodyB rowD
        simp [fF_run, e1, z, hset]
      rw [h, go_ok]
      exact ih
def begP (r : Rows) : List Nat := endsP r ++ innerP r
def BegunOk (F : List D → M D) : Prop := ∀ (r : Rows) (v : Rat) (S : Sto), RowsOk r → F [rowsD r, qd v] S = .ok (tabD (begP r) (beginQ r v)) S
theorem begP_perm (r : Rows) : (begP r).Perm (places r) := by
  unfold begP endsP innerP places
  rw [← List.map_append]
  exact (List.filter_append_perm _ _).map _
theorem begun_ok (hE : EndOk (Φ.fn 21)) (hI : EndsInOk (Φ.fn 38)) : BegunOk (g_begun Φ) := by
  intro r v S hr
  have hlen := hr.len
  have e1 := hI r v S hr
  have hn : (begP r).Nodup := (begP_perm r).nodup_iff.mpr hr.nodup
  have hl : (endsP r).length ≤ r.length := by unfold endsP; rw [List.length_map]; exact List.length_filter_le _ _
  obtain ⟨o3', o4', e2⟩ := rowsB (Φ := Φ) (S := S) (R := some (rowsD r)) (v := v) hE hr r (endsP r) none none (fun _ h => h) hn (by omega)
  have h4 : itemsOf .seq [rowsD r] = some (r.map rowD) := rfl
  have e0 : p_begun = [(.asg (.nm 2) (.call 38 [(.var 0)])), (.forr (.tup [(.nm 3), (.nm 4)]) .seq [(.var 0)] bodyB), (.ret (some (.var 2)))] := rfl
  unfold g_begun
  rw [e0]
  simp [runB_run, e1, h4, e2, begP]
/-- keys of a table of rows -/
def KeysOk (r : Rows) (ks : List Nat) : Prop := ks.Perm (places r)
def MovedOk (F : List D → M D) : Prop := ∀ (k : Nat) (r : Rows) (ks : List Nat) (f : Nat → Rat) (S : Sto), k ≤ 1900 → RowsOk r → KeysOk r ks → (∀ c ∈ places r, sz k (f c)) → F [rowsD r, tabD ks f] S = .ok (tabD (places r) (stepQ r f)) S
theorem moved_ok (hE : EndOk (Φ.fn 21)) (hH : HalvedOk (Φ.fn 55)) : MovedOk (g_moved Φ) := by
  intro k r ks f S hk hr hks hs
  have hlen := hr.len
  have hline : r.length < line := by simp [line]; omega
  have h4 : itemsOf .seq [rowsD r] = some (r.map rowD) := rfl
  have hc1 : ∀ p ∈ r, kF Φ (.tup [.nm 2, .nm 3]) [] (.tup [(.var 2), (.ite (.call 21 [(.var 3)]) (.var 3) (.call 55 [(.var 3), (.var 1)]))]) [2, 3] [some (rowsD r), some (tabD ks f), none, none] (rowD p) S = .ok (some (.tup [pd p.1, qd (stepQ r f p.1)])) S := by
    intro p hp
    have e1 := row_val (S := S) (i := 3) (j := 1) (δ := [some (rowsD r), some (tabD ks f), some (pd p.1), some p.2.d]) hE hH hk hr hs (fun c h => (hks.mem_iff).mpr h) hp rfl rfl
    have e2 : stepQ r f p.1 = p.2.val f := by unfold stepQ; rw [whatAt_of hr.nodup hp]
    rw [e2]
    unfold rowD
    simp [kF_run, wipe, e1, -r_ite]
  have h1 := comp_map1 hc1
  have e3 : (r.map fun p => D.tup [pd p.1, qd (stepQ r f p.1)]) = (places r).map fun c => .tup [pd c, qd (stepQ r f c)] := by
    unfold places
    rw [List.map_map]
    rfl
  rw [e3] at h1
  have e4 := dict_tab (f := stepQ r f) (S := S) hr.nodup (by simp [places]; omega)
  unfold g_moved p_moved
  simp only [runB_run, List.map_cons, List.map_nil, List.cons_append, List.nil_append, List.length_cons, List.length_nil, show List.replicate (4 - (0 + 1 + 1)) (none : Option D) = [none, none] from rfl, ss_cons, s_ret, r_bi, rs_cons, rs_nil, r_comp, r_var, getV_run, List.getElem?_cons_zero, go_ok, h4, ofO_some, h1, List.length_map, hline, if_true]
  simp [e4, hline]
end
end RF
end
section
set_option linter.all false
set_option maxRecDepth 100000
set_option maxHeartbeats 4000000
set_option autoImplicit false
/-! RfAcc2: claims that are right, and what is accepted. -/
namespace RF
open PySem (Str)
section
variable {Φ : Fns} {k c e t n : Nat} {a b q s v : Rat} {S : Sto} {d : D} {l m ks js : List Nat} {r : Rows} {f g : Nat → Rat} {w : Str}
theorem nw : ∀ {w : Str}, w = "needs" ∨ w = "above" ∨ w = "below" → w ≠ "within" ∧ w ≠ "safe" := by
  rintro w (h | h | h) <;> subst h <;> exact ⟨by decide, by decide⟩
def RowsOkF (F : List D → M D) : Prop := ∀ (r : Rows) (S : Sto), RowsOk r → F [rowsD r] S = .ok (.bl true) S
/-! ### tables within so many moves -/
/-! ### safe bids -/
def rowsL (r : Rows) : List (Ky × D) := r.map fun p => (.inr (sgn p.1), p.2.d)
theorem dget_rows : ∀ {r : Rows}, (places r).Nodup → c ∈ places r → dget (rowsL r) (.inr (sgn c)) = some (whatAt r c).d
  | [], _, h => nomatch h
  | p :: r, hn, h => by
    show (if (Sum.inr (sgn p.1) : Ky) = .inr (sgn c) then some p.2.d else dget (rowsL r) (.inr (sgn c))) = _
    unfold places at hn h
    rw [List.map_cons] at hn h
    by_cases z : p.1 = c
    · rw [if_pos (ky_eq.mpr z)]
      unfold whatAt
      rw [List.find?_cons]
      simp [z]
    · rw [if_neg fun y => z (ky_eq.mp y)]
      have h' : c ∈ places r := by
        rcases List.mem_cons.mp h with y | y
        · exact absurd y.symm z
        · exact y
      rw [dget_rows (List.nodup_cons.mp hn).2 h']
      unfold whatAt
      rw [List.find?_cons]
      have : (p.1 == c) = false := by simpa using z
      rw [this]
theorem dput_rows (hn : c ∉ places r) {w : What} : dput (rowsL r) (.inr (sgn c)) w.d = rowsL (r ++ [(c, w)]) := by
  unfold dput
  have : ((rowsL r).any fun p => decide (p.1 = .inr (sgn c))) = false := by
    rw [List.any_eq_false]
    intro p hp
    obtain ⟨x, hx, rfl⟩ := List.mem_map.mp hp
    simp only [decide_eq_true_eq]
    intro z
    exact hn (ky_eq.mp z ▸ mem_places hx)
  rw [this]
  unfold rowsL
  rw [List.map_append]
  rfl
theorem dputs_rows : ∀ {r2 r1 : Rows}, (places (r1 ++ r2)).Nodup → dputs (rowsL r1) (rowsL r2) = rowsL (r1 ++ r2)
  | [], r1, _ => by rw [List.append_nil]; rfl
  | p :: r2, r1, h => by
    show dputs (dput (rowsL r1) (.inr (sgn p.1)) p.2.d) (rowsL r2) = _
    have hx : p.1 ∉ places r1 := by
      unfold places at h ⊢
      rw [List.map_append] at h
      intro z
      exact (List.nodup_append.mp h).2.2 _ z p.1 (by simp) rfl
    have e : r1 ++ p :: r2 = (r1 ++ [(p.1, p.2)]) ++ r2 := by simp
    rw [dput_rows hx, e]
    exact dputs_rows (by rw [← e]; exact h)
theorem pairs_rows : ∀ {r : Rows}, pairsOf (r.map rowD) = some (rowsL r)
  | [] => rfl
  | p :: r => by
    show (match keyOf (pd p.1), pairsOf (r.map rowD) with
      | some q, some m => some ((q, p.2.d) :: m)
      | _, _ => none) = _
    rw [pairs_rows]
    rfl
end
end RF
end
section
set_option linter.all false
set_option maxRecDepth 100000
set_option maxHeartbeats 4000000
set_option autoImplicit false
/-! RfAcc3: safe bids shown; what is accepted. -/
namespace RF
open PySem (Str)
section
variable {Φ : Fns} {k c e t n : Nat} {a b q s v : Rat} {S : Sto} {d : D} {l m ks js : List Nat} {r : Rows} {f g : Nat → Rat} {w : Str}
theorem dict_rows (hr : RowsOk r) : biD .dict [rowsD r] S = .ok (.dct (rowsL r)) S := by
  have e : biD .dict [rowsD r] S = (match pairsOf (r.map rowD) with
    | some m => if m.length ≤ line then pure (D.dct (dputs [] m)) else M.no
    | none => (M.no : M D)) S := rfl
  have hlen := hr.len
  have hl2 : (rowsL r).length ≤ line := by unfold rowsL; rw [List.length_map]; simp [line]; omega
  have hd : dputs [] (rowsL r) = rowsL r := by simpa [rowsL] using dputs_rows (r2 := r) (r1 := []) (by simpa using hr.nodup)
  rw [e, pairs_rows]
  simp only [if_pos hl2, hd]
  rfl
theorem ixF_rows (hr : RowsOk r) (hc : c ∈ places r) : ixF (.dct (rowsL r)) (pd c) S = .ok (whatAt r c).d S :=
  ixF_of (dget_rows hr.nodup hc)
theorem what_mem (hr : RowsOk r) (hc : c ∈ places r) : (c, whatAt r c) ∈ r := by
  obtain ⟨p, hp, rfl⟩ := List.mem_map.mp hc
  rw [whatAt_of hr.nodup hp]
  exact hp
/-! ### accepts -/
end
end RF
end
section
set_option linter.all false
set_option maxRecDepth 100000
set_option maxHeartbeats 4000000
set_option autoImplicit false
/-! RfSize: needs within moves are parts with small bottoms. -/
namespace RF
open PySem (Str)
section
variable {k c i n N : Nat} {a b q v : Rat} {l : List Nat} {r : Rows} {f : Nat → Rat}
def Dv (N : Nat) (q : Rat) : Prop := ∃ z : Int, q * (N : Rat) = (z : Rat)
theorem natR_pos (h : 0 < N) : (0 : Rat) < (N : Rat) := by
  have : ((0 : Nat) : Rat) < (N : Rat) := Rat.natCast_lt_natCast.mpr h
  simpa using this
theorem sz_dv (hN : 0 < N) (h : Dv N q) (h0 : 0 ≤ q) (h1 : q ≤ 1) (hb : N < 2 ^ k) : sz k q := by
  obtain ⟨z, e⟩ := h
  have hp := natR_pos hN
  have e1 : q = mkRat z N := by
    rw [Rat.mkRat_eq_div]
    have : (N : Rat) ≠ 0 := by grind
    grind
  have z0 : 0 ≤ z := by
    have : (0 : Rat) ≤ (z : Rat) := by rw [← e]; exact Rat.mul_nonneg h0 (by grind)
    exact_mod_cast this
  have z1 : z ≤ N := by
    have h2 : (z : Rat) ≤ (N : Rat) := by
      rw [← e]
      have : q * (N : Rat) ≤ 1 * (N : Rat) := Rat.mul_le_mul_of_nonneg_right h1 (by grind)
      simpa using this
    exact_mod_cast h2
  rw [e1]
  exact sz_mk (by omega) (by omega) hb
theorem dv_add (ha : Dv N a) (hb : Dv N b) : Dv (N * 2) ((a + b) / 2) := by
  obtain ⟨x, hx⟩ := ha
  obtain ⟨y, hy⟩ := hb
  refine ⟨x + y, ?_⟩
  have e : ((N * 2 : Nat) : Rat) = (N : Rat) * 2 := by push_cast; rfl
  have e2 : ((x + y : Int) : Rat) = (x : Rat) + (y : Rat) := by push_cast; rfl
  rw [e, e2, ← hx, ← hy]
  grind
theorem dv_mul (M : Nat) (h : Dv N a) : Dv (N * M) a := by
  obtain ⟨x, hx⟩ := h
  refine ⟨x * M, ?_⟩
  have e : ((N * M : Nat) : Rat) = (N : Rat) * (M : Rat) := by push_cast; rfl
  have e2 : ((x * (M : Int) : Int) : Rat) = (x : Rat) * (M : Rat) := by push_cast; rfl
  rw [e, e2, ← hx]
  grind
theorem dv_den (q : Rat) : Dv q.den q := ⟨q.num, by
  have h : q = (q.num : Rat) / (q.den : Rat) := by
    have := Rat.mkRat_eq_div q.num q.den
    rw [Rat.mkRat_self] at this
    exact this
  have hp := natR_pos q.den_pos
  have : (q.den : Rat) ≠ 0 := by grind
  grind⟩
/-- all bottoms of the ends, together -/
def bots : Rows → Nat
  | [] => 1
  | (_, .num q) :: r => q.den * bots r
  | (_, .arr _) :: r => bots r
theorem bots_pos : ∀ r : Rows, 0 < bots r
  | [] => by decide
  | (_, .num q) :: r => Nat.mul_pos q.den_pos (bots_pos r)
  | (_, .arr _) :: r => bots_pos r
theorem bots_le : ∀ r : Rows, (∀ p ∈ r, whatOk p.2) → bots r ≤ 2 ^ (40 * r.length)
  | [], _ => by decide
  | (c, .num q) :: r, h => by
    have ih := bots_le r fun p hp => h p (List.mem_cons_of_mem _ hp)
    have hq : q.den ≤ MB := (h (c, .num q) (by simp)).2
    have h40 : MB ≤ 2 ^ 40 := by decide
    have : q.den * bots r ≤ 2 ^ 40 * 2 ^ (40 * r.length) := Nat.mul_le_mul (Nat.le_trans hq h40) ih
    rw [← Nat.pow_add] at this
    have e : 40 + 40 * r.length = 40 * ((c, What.num q) :: r).length := by rw [List.length_cons]; omega
    rw [e] at this
    exact this
  | (c, .arr l) :: r, h => by
    have ih := bots_le r fun p hp => h p (List.mem_cons_of_mem _ hp)
    have : 2 ^ (40 * r.length) ≤ 2 ^ (40 * ((c, What.arr l) :: r).length) := Nat.pow_le_pow_right (by decide) (by rw [List.length_cons]; omega)
    exact Nat.le_trans ih this
theorem bots_dv : ∀ {r : Rows}, (c, What.num q) ∈ r → Dv (bots r) q
  | (d, .num p) :: r, h => by
    rcases List.mem_cons.mp h with e | e
    · cases e
      exact dv_mul _ (dv_den q)
    · have := dv_mul p.den (bots_dv e)
      rw [Nat.mul_comm] at this
      exact this
  | (d, .arr l) :: r, h => by
    rcases List.mem_cons.mp h with e | e
    · cases e
    · exact bots_dv (r := r) e
theorem minL_of {P : Rat → Prop} (h0 : l ≠ []) (h : ∀ c ∈ l, P (f c)) : P (minL l f) := by
  obtain ⟨c, hc, e⟩ := minL_mem (f := f) h0
  rw [e]; exact h c hc
theorem maxL_of {P : Rat → Prop} (h0 : l ≠ []) (h : ∀ c ∈ l, P (f c)) : P (maxL l f) := by
  obtain ⟨c, hc, e⟩ := maxL_mem (f := f) h0
  rw [e]; exact h c hc
theorem iter_dv (hr : RowsOk r) (hv : v = 0 ∨ v = 1) : ∀ (i c : Nat), c ∈ places r → Dv (bots r * 2 ^ i) (iterQ r v i c) ∧ 0 ≤ iterQ r v i c ∧ iterQ r v i c ≤ 1
  | 0, c, hc => by
    have hm := what_mem hr hc
    rw [Nat.pow_zero, Nat.mul_one]
    show Dv (bots r) (beginQ r v c) ∧ 0 ≤ beginQ r v c ∧ beginQ r v c ≤ 1
    unfold beginQ
    cases e : whatAt r c with
    | num q =>
      rw [e] at hm
      have hw := hr.what _ hm
      exact ⟨bots_dv hm, hw.1.1, hw.1.2⟩
    | arr l =>
      show Dv (bots r) v ∧ 0 ≤ v ∧ v ≤ 1
      rcases hv with rfl | rfl
      · exact ⟨⟨0, by simp⟩, by decide, by decide⟩
      · exact ⟨⟨bots r, by push_cast; simp⟩, by decide, by decide⟩
  | i + 1, c, hc => by
    have hm := what_mem hr hc
    show Dv (bots r * 2 ^ (i + 1)) (stepQ r (iterQ r v i) c) ∧ 0 ≤ stepQ r (iterQ r v i) c ∧ stepQ r (iterQ r v i) c ≤ 1
    unfold stepQ
    cases e : whatAt r c with
    | num q =>
      rw [e] at hm
      have hw := hr.what _ hm
      exact ⟨dv_mul _ (bots_dv hm), hw.1.1, hw.1.2⟩
    | arr l =>
      rw [e] at hm
      have hw := hr.what _ hm
      have ht := hr.to _ hm l rfl
      have ih := fun t (h : t ∈ l) => iter_dv hr hv i t (ht t h)
      have h1 := minL_of (P := fun q => Dv (bots r * 2 ^ i) q ∧ 0 ≤ q ∧ q ≤ 1) hw.1 ih
      have h2 := maxL_of (P := fun q => Dv (bots r * 2 ^ i) q ∧ 0 ≤ q ∧ q ≤ 1) hw.1 ih
      show Dv (bots r * 2 ^ (i + 1)) (halfQ l (iterQ r v i)) ∧ 0 ≤ halfQ l (iterQ r v i) ∧ halfQ l (iterQ r v i) ≤ 1
      unfold halfQ
      rw [Nat.pow_succ, ← Nat.mul_assoc]
      refine ⟨dv_add h1.1 h2.1, ?_, ?_⟩
      · have := h1.2.1; have := h2.2.1; grind
      · have := h1.2.2; have := h2.2.2; grind
theorem sz_iter (hr : RowsOk r) (hv : v = 0 ∨ v = 1) (hi : i ≤ 100) (hc : c ∈ places r) : sz 600 (iterQ r v i c) := by
  obtain ⟨h1, h2, h3⟩ := iter_dv hr hv i c hc
  have hb := bots_le r hr.what
  have hl := hr.len.2
  have h4 : bots r * 2 ^ i ≤ 2 ^ (40 * r.length) * 2 ^ i := Nat.mul_le_mul_right _ hb
  rw [← Nat.pow_add] at h4
  have h5 : 2 ^ (40 * r.length + i) < 2 ^ 600 := Nat.pow_lt_pow_right (by decide) (by omega)
  exact sz_dv (Nat.mul_pos (bots_pos r) (Nat.two_pow_pos i)) h1 h2 h3 (by omega)
end
end RF
end
section
set_option linter.all false
set_option maxRecDepth 100000
set_option maxHeartbeats 4000000
set_option autoImplicit false
/-! RfGauss: numbers that are mixes of one another: the steps that solve them, and how great the numbers get. Plain Lean. -/
namespace RF
def sumQ : Nat → (Nat → Rat) → Rat
  | 0, _ => 0
  | n + 1, f => sumQ n f + f n
section
variable {n t i j k N B : Nat} {f g v x : Nat → Rat} {A : Nat → Nat → Rat} {a b c q : Rat}
theorem sum_le : ∀ {n : Nat}, (∀ j, j < n → f j ≤ g j) → sumQ n f ≤ sumQ n g
  | 0, _ => Rat.le_refl
  | n + 1, h => by
    have h1 := sum_le fun j hj => h j (Nat.lt_succ_of_lt hj)
    have h2 := h n (Nat.lt_succ_self n)
    rw [sumQ, sumQ]
    grind
theorem sum_zero : ∀ {n : Nat}, (∀ j, j < n → f j = 0) → sumQ n f = 0
  | 0, _ => rfl
  | n + 1, h => by
    rw [sumQ, sum_zero fun j hj => h j (Nat.lt_succ_of_lt hj), h n (Nat.lt_succ_self n)]
    grind
theorem mul_pn (ha : 0 ≤ a) (hb : b ≤ 0) : a * b ≤ 0 := by
  have h1 : 0 ≤ a * (-b) := Rat.mul_nonneg ha (by grind)
  grind
/-! ### one step -/
structure Gd (n t : Nat) (v : Nat → Rat) (A : Nat → Nat → Rat) : Prop where
  off : ∀ i j, i < n → j < n → i ≠ j → A i j ≤ 0
  sum : ∀ i, i < n → A i n ≤ sumQ n (A i)
  wt : ∀ i, i < n → 0 < sumQ n (fun j => A i j * v j)
  dia : ∀ i, i < n → A i i ≤ 1
  rhs : ∀ i, i < n → 0 ≤ A i n
  unit : ∀ i j, i < n → j < t → A i j = if i = j then 1 else 0
theorem Gd.pos (h : Gd n t v A) (hv : ∀ j, j < n → 0 < v j) (hi : i < n) : 0 < A i i := by
  apply Classical.byContradiction
  intro z
  have z : A i i ≤ 0 := Rat.not_lt.mp z
  have h1 := h.wt i hi
  have h2 : sumQ n (fun j => A i j * v j) ≤ sumQ n (fun _ => 0) := sum_le fun j hj => by
    have hvj := hv j hj
    have : A i j ≤ 0 := by
      by_cases e : i = j
      · subst e; exact z
      · exact h.off i j hi hj e
    have := mul_pn (Rat.le_of_lt hvj) this
    grind
  rw [sum_zero fun _ _ => rfl] at h2
  grind
/-! ### how great they get -/
end
end RF
end
section
set_option linter.all false
set_option maxRecDepth 100000
set_option maxHeartbeats 4000000
set_option autoImplicit false
/-! RfSum: what the functions of sums compute. -/
namespace RF
open PySem (Str)
end RF
end
section
set_option linter.all false
set_option maxRecDepth 100000
set_option maxHeartbeats 4000000
set_option autoImplicit false
/-! RfNet: the rows of a web as a net; the numbers if both sides' ways are given. Plain Lean. -/
namespace RF
def arrsOf : What → List Nat
  | .arr l => l
  | .num _ => []
def ix (r : Rows) (c : Nat) : Nat := (places r).idxOf c
def pl (r : Rows) (i : Nat) : Nat := (places r).getD i 0
end RF
end
section
set_option linter.all false
set_option maxRecDepth 100000
set_option maxHeartbeats 4000000
set_option autoImplicit false
/-! RfHalf: ways as dicts; the rows of halves; the numbers for both ways. -/
namespace RF
open PySem (Str)
end RF
end
section
set_option linter.all false
set_option maxRecDepth 100000
set_option maxHeartbeats 4000000
set_option autoImplicit false
/-! RfWay: ways made better; ways home. -/
namespace RF
open PySem (Str)
end RF
end
section
set_option linter.all false
set_option maxRecDepth 100000
set_option maxHeartbeats 4000000
set_option autoImplicit false
/-! RfNeeds: ways home, one side's answer, the needs. -/
namespace RF
open PySem (Str)
/-- where an arrow leads nearer to an end -/
def hd (r : Rows) (home : List Nat) (c : Nat) : Nat := ((arrsOf (whatAt r c)).filter fun t => decide (t ∈ home)).headD 0
end RF
end
section
set_option linter.all false
set_option maxRecDepth 100000
set_option maxHeartbeats 4000000
set_option autoImplicit false
/-! RfAns: one side's answer; the needs. -/
namespace RF
open PySem (Str)
section
variable {Φ : Fns} {k c e n m : Nat} {S : Sto} {d : D} {l ks js : List Nat} {r : Rows} {f s g : Nat → Nat} {x y : Nat → Rat}
/-! ### needs_of -/
/-- the one table, of so many bits -/
def IsNeed (r : Rows) (x : Nat → Rat) : Prop := isTab r x ∧ (∀ c ∈ places r, sz 1500 (x c)) ∧ (r.length ≤ 5 → ∀ c ∈ places r, sz 240 (x c)) ∧ ∀ c ∈ places r, 0 ≤ x c ∧ x c ≤ 1
noncomputable def needQ (r : Rows) : Nat → Rat := open Classical in if h : ∃ x, IsNeed r x then h.choose else fun _ => 0
end
end RF
end
section
set_option linter.all false
set_option maxRecDepth 100000
set_option maxHeartbeats 4000000
set_option autoImplicit false
/-! RfWebO: a web's text; webs as instances; needs and need. -/
namespace RF
open PySem (Str)
section
variable {Φ : Fns} {k c e n m N : Nat} {a b q : Rat} {S : Sto} {d v x y : D} {δ : En} {l : List Nat} {r : Rows} {w : Str}
/-! ### lengths of texts -/
theorem len_nat {n k : Nat} (hk : 0 < k) (h : n < 10 ^ k) : (Str.ofString (toString (n : Int))).length ≤ k := by
  have e : (toString (n : Int)) = n.repr := rfl
  rw [e, Str.ofString_eq_toList]
  show ((n.repr.toList.map Char.toNat).toArray).size ≤ k
  rw [List.size_toArray, List.length_map]
  exact (Nat.length_repr_le_iff hk).mpr h
theorem fmt_nat (h : n < 2 ^ 1920) : fmtD (.int (n : Int)) = some (Str.ofString (toString (n : Int))) := by
  show (if (n : Int).natAbs.log2 < 1920 then some (Str.ofString (toString (n : Int))) else none) = _
  rw [if_pos (log_lt (by simpa using h) (by decide))]
theorem len_app (x y : Str) : (x ++ y).length = x.length + y.length := Array.size_append
theorem foldl_len (g : Str) : ∀ (xs : List Str) (acc : Array Nat), (xs.foldl (fun acc p => acc ++ g.cps ++ p.cps) acc).size = acc.size + (xs.map (·.length)).sum + xs.length * g.length
  | [], acc => by simp
  | x :: xs, acc => by
    rw [List.foldl_cons, foldl_len g xs]
    simp only [Array.size_append, List.map_cons, List.sum_cons, List.length_cons, Str.length, Nat.add_mul]
    omega
theorem glue_len (g : Str) (xs : List Str) : (gluedS g xs).length ≤ (xs.map (·.length)).sum + xs.length * g.length := by
  unfold gluedS
  show (((xs.drop 1).foldl (fun acc p => acc ++ g.cps ++ p.cps) (xs.headD Str.empty).cps)).size ≤ _
  rw [foldl_len]
  cases xs with
  | nil => simp [Str.empty]
  | cons x xs =>
    simp only [List.drop_one, List.tail_cons, List.headD_cons, List.map_cons, List.sum_cons, List.length_cons, Str.length, Nat.add_mul]
    omega
theorem strs_map : ∀ xs : List Str, strsOf (xs.map D.str) = some xs
  | [] => rfl
  | x :: xs => by
    show (strsOf (xs.map D.str)).map (x :: ·) = _
    rw [strs_map xs]
    rfl
theorem join_ok {g : Str} {xs : List Str} (h : (xs.map (·.length)).sum + xs.length * g.length ≤ 16777216) : mtD .join (.str g) [.lst (xs.map D.str)] S = .ok (.str (gluedS g xs)) S := by
  show (match strsOf (xs.map D.str) with
      | some xs => if (xs.map (fun x : Str => x.length)).sum + xs.length * g.length ≤ 16777216 then (pure (.str (gluedS g xs)) : M D) else M.no
      | none => M.no) S = _
  rw [strs_map]
  simp only [if_pos h]
  rfl
theorem join_tup {g : Str} {xs : List Str} (h : (xs.map (·.length)).sum + xs.length * g.length ≤ 16777216) : mtD .join (.str g) [.tup (xs.map D.str)] S = .ok (.str (gluedS g xs)) S := by
  show (match strsOf (xs.map D.str) with
      | some xs => if (xs.map (fun x : Str => x.length)).sum + xs.length * g.length ≤ 16777216 then (pure (.str (gluedS g xs)) : M D) else M.no
      | none => M.no) S = _
  rw [strs_map]
  simp only [if_pos h]
  rfl
theorem sumlen_le {xs : List Str} {B : Nat} (h : ∀ x ∈ xs, x.length ≤ B) : (xs.map (·.length)).sum ≤ xs.length * B := by
  induction xs with
  | nil => simp
  | cons x xs ih =>
    have h1 := h x (by simp)
    have h2 := ih fun y hy => h y (List.mem_cons_of_mem _ hy)
    simp only [List.map_cons, List.sum_cons, List.length_cons, Nat.add_mul]
    omega
/-! ### the text -/
def lineX : X := (.ite (.call 21 [(.var 3)]) (.fstr [(.var 2), (.cst (.str " = ")), (.ix (.var 3) (.cst (.int 0))), (.cst (.str "/")), (.ix (.var 3) (.cst (.int 1)))]) (.bin .add (.fstr [(.var 2), (.cst (.str ": "))]) (.meth .join (.cst (.str " ")) [(.var 3)])))
theorem line_ok (hE : EndOk (Φ.fn 21)) (hw : ∀ q, (∃ c, (c, What.num q) ∈ r) → (0 ≤ q ∧ q ≤ 1) ∧ q.den ≤ MB) {p : Nat × What} (hp : p ∈ r) (hok : whatOk p.2) {o0 o1 : Option D} : ∃ t : Str, t.length ≤ 3000 ∧ ∀ (o0 o1 : Option D) (S : Sto), denX Φ lineX [o0, o1, some (pd p.1), some p.2.d] S = .ok (.str t) S := by
  obtain ⟨c, w⟩ := p
  have hs : fmtD (pd c) = some (sgn c) := by
    show (if (sgn c).length ≤ line then some (sgn c) else none) = _
    rw [if_pos (by simp [sgn_len, line])]
  cases w with
  | num q =>
    have hq : (0 ≤ q ∧ q ≤ 1) ∧ q.den ≤ MB := hok
    have h1 : ∀ S, Φ.fn 21 [qd q] S = .ok (.bl true) S := hE.1 q
    have h0 : 0 ≤ q.num := Rat.num_nonneg.mpr hq.1.1
    have hn : q.num ≤ q.den := by
      have := (Rat.le_iff q 1).mp hq.1.2
      simpa using this
    obtain ⟨u, hu⟩ : ∃ u : Nat, q.num = (u : Int) := ⟨q.num.toNat, by omega⟩
    have hu2 : u ≤ MB := by have := hq.2; omega
    have f1 := fmt_nat (n := u) (Nat.lt_of_le_of_lt hu2 (by decide +kernel))
    have f2 := fmt_nat (n := q.den) (Nat.lt_of_le_of_lt hq.2 (by decide +kernel))
    have l1 : (Str.ofString (toString (u : Int))).length ≤ 13 := len_nat (by decide) (Nat.lt_of_le_of_lt hu2 (by decide))
    have l2 : (Str.ofString (toString (q.den : Int))).length ≤ 13 := len_nat (by decide) (Nat.lt_of_le_of_lt hq.2 (by decide))
    have hf : fmtsD [pd c, .str " = ", .int (u : Int), .str "/", .int (q.den : Int)] = some [sgn c, " = ", Str.ofString (toString (u : Int)), "/", Str.ofString (toString (q.den : Int))] := by
      have k1 : fmtD (.str " = ") = some (" = " : Str) := by decide +kernel
      have k2 : fmtD (.str "/") = some ("/" : Str) := by decide +kernel
      simp only [fmtsD, hs, k1, k2, f1, f2]
    have hl : (joinS [sgn c, " = ", Str.ofString (toString (u : Int)), "/", Str.ofString (toString (q.den : Int))]).length ≤ 100 := by
      have k1 : (" = " : Str).length = 3 := by decide +kernel
      have k2 : ("/" : Str).length = 1 := by decide +kernel
      have k3 : Str.empty.length = 0 := rfl
      simp only [joinS, len_app, sgn_len, k1, k2, k3]
      omega
    refine ⟨_, Nat.le_trans hl (by decide), fun o0 o1 S => ?_⟩
    have i0 : ixF (qd q) (.int 0) S = .ok (.int (u : Int)) S := by rw [← hu]; exact ixF_T0
    have i1 : ixF (qd q) (.int 1) S = .ok (.int q.den) S := ixF_T1
    unfold lineX
    simp only [r_ite, r_call, rs_cons, rs_nil, r_var, getV_run, List.getElem?_cons_zero, List.getElem?_cons_succ, go_ok, What.d, h1, bool_bl, if_true, r_fstr, r_cst, r_ix, i0, i1, hf, if_pos (Nat.le_trans hl (by decide : 100 ≤ line))]
  | arr l =>
    obtain ⟨h0, hl, _, _⟩ : l ≠ [] ∧ l.length ≤ 1000 ∧ l.all isLet = true ∧ asc l = true := hok
    obtain ⟨t, ts, rfl⟩ : ∃ t ts, l = t :: ts := by
      cases l with
      | nil => exact absurd rfl h0
      | cons t ts => exact ⟨t, ts, rfl⟩
    have h1 := fun S => end_ok hE (w := .arr (t :: ts)) (by simp [What.ne]) S
    have hf : fmtsD [pd c, .str ": "] = some [sgn c, ": "] := by
      have k1 : fmtD (.str ": ") = some (": " : Str) := by decide +kernel
      simp only [fmtsD, hs, k1]
    have k1 : (": " : Str).length = 2 := by decide +kernel
    have k2 : (" " : Str).length = 1 := by decide +kernel
    have k3 : Str.empty.length = 0 := rfl
    have hlj : (joinS [sgn c, (": " : Str)]).length = 3 := by simp only [joinS, len_app, sgn_len, k1, k3]
    have hsum : (((t :: ts).map sgn).map (·.length)).sum ≤ (t :: ts).length * 1 := by
      have := sumlen_le (xs := (t :: ts).map sgn) (B := 1) (fun x hx => by
        obtain ⟨y, _, e⟩ := List.mem_map.mp hx
        rw [← e, sgn_len]
        exact Nat.le_refl 1)
      rw [List.length_map] at this
      exact this
    have hg := glue_len " " ((t :: ts).map sgn)
    have hml : ((t :: ts).map sgn).length = (t :: ts).length := List.length_map _
    rw [hml, k2] at hg
    have e1 : (t :: ts).map pd = ((t :: ts).map sgn).map D.str := by rw [List.map_map]; rfl
    have hj : ∀ S, mtD .join (.str " ") [(What.arr (t :: ts)).d] S = .ok (.str (gluedS " " ((t :: ts).map sgn))) S := fun S => by
      show mtD .join (.str " ") [.tup ((t :: ts).map pd)] S = _
      rw [e1]
      exact join_tup (by rw [hml, k2]; omega)
    have hgl : (gluedS " " ((t :: ts).map sgn)).length ≤ 2500 := by omega
    have hb : ∀ S, binD .add (.str (joinS [sgn c, (": " : Str)])) (.str (gluedS " " ((t :: ts).map sgn))) S = .ok (.str (joinS [sgn c, (": " : Str)] ++ gluedS " " ((t :: ts).map sgn))) S := fun S => by
      show (if (joinS [sgn c, (": " : Str)]).length + (gluedS " " ((t :: ts).map sgn)).length ≤ line then (pure (.str (joinS [sgn c, (": " : Str)] ++ gluedS " " ((t :: ts).map sgn))) : M D) else M.no) S = _
      rw [if_pos (by rw [hlj]; simp only [line]; omega)]
      rfl
    refine ⟨joinS [sgn c, (": " : Str)] ++ gluedS " " ((t :: ts).map sgn), ?_, fun o0 o1 S => ?_⟩
    rotate_left
    · unfold lineX
      simp only [r_ite, r_call, rs_cons, rs_nil, r_var, getV_run, List.getElem?_cons_zero, List.getElem?_cons_succ, go_ok, h1, isNum, bool_bl, if_neg (show ¬ (false = true) from by decide), r_fstr, r_cst, r_bin, r_meth, hf, hj, if_pos (show (joinS [sgn c, (": " : Str)]).length ≤ line by rw [hlj]; decide), hb]
    · rw [len_app, hlj]
      omega
def TextOk (F : List D → M D) : Prop := ∀ (r : Rows), RowsOk r → ∃ w : Str, ∀ S, F [rowsD r] S = .ok (.str w) S
theorem text_loop (hE : EndOk (Φ.fn 21)) : ∀ (r : Rows), (∀ p ∈ r, whatOk p.2) → ∃ xs : List Str, xs.length = r.length ∧ (∀ x ∈ xs, x.length ≤ 3000) ∧
    ∀ (ys : List Str) (o0 o2 o3 : Option D) (S : Sto), ys.length + r.length ≤ 1000 → ∃ o2' o3', forL (fF Φ fuel (.tup [.nm 2, .nm 3]) [.app 1 lineX]) (r.map rowD) [o0, some (.lst (ys.map D.str)), o2, o3] S = .ok (.nx [o0, some (.lst ((ys ++ xs).map D.str)), o2', o3']) S
  | [], _ => ⟨[], rfl, (fun _ h => nomatch h), fun ys o0 o2 o3 S _ => ⟨o2, o3, by rw [List.append_nil]; rfl⟩⟩
  | (c, w) :: r, h => by
    obtain ⟨t, ht, h1⟩ := line_ok (r := (c, w) :: r) (p := (c, w)) hE (fun q ⟨c', hm⟩ => h _ hm) (by simp) (h _ (by simp)) (o0 := none) (o1 := none)
    obtain ⟨xs, hl, hx, h2⟩ := text_loop hE r fun p hp => h p (List.mem_cons_of_mem _ hp)
    refine ⟨t :: xs, by simp [hl], fun x hx' => ?_, fun ys o0 o2 o3 S hy => ?_⟩
    · rcases List.mem_cons.mp hx' with e | e
      · rw [e]; exact ht
      · exact hx x e
    · rw [List.length_cons] at hy
      obtain ⟨a2, a3, h3⟩ := h2 (ys ++ [t]) o0 (some (pd c)) (some w.d) S (by simp; omega)
      refine ⟨a2, a3, ?_⟩
      have b0 : M.ofO (bindT (.tup [.nm 2, .nm 3]) (rowD (c, w)) [o0, some (.lst (ys.map D.str)), o2, o3]) S = .ok [o0, some (.lst (ys.map D.str)), some (pd c), some w.d] S := by
        unfold rowD
        simp
      have e1 := h1 o0 (some (.lst (ys.map D.str))) S
      have hll : (ys.map D.str).length < line := by rw [List.length_map]; simp [line]; omega
      have e2 : ys.map D.str ++ [D.str t] = (ys ++ [t]).map D.str := by simp
      rw [List.map_cons, for_cons, fF_run, b0, go_ok]
      simp only [ss_cons, ss_nil, s_app, e1, go_ok, getV_run, List.getElem?_cons_zero, List.getElem?_cons_succ, appF_run, if_pos hll, e2, List.set_cons_succ, List.set_cons_zero, nxt_nx, h3]
      simp
theorem text_ok (hE : EndOk (Φ.fn 21)) : TextOk (g_text_of Φ) := by
  intro r hr
  obtain ⟨xs, hl, hx, h1⟩ := text_loop hE r hr.what
  refine ⟨gluedS "\n" xs, fun S => ?_⟩
  have hlen := hr.len
  obtain ⟨o2, o3, e1⟩ := h1 [] (some (rowsD r)) none none S (by simp; omega)
  have k1 : ("\n" : Str).length = 1 := by decide +kernel
  have hs := sumlen_le hx
  have hj : mtD .join (.str "\n") [.lst (xs.map D.str)] S = .ok (.str (gluedS "\n" xs)) S := join_ok (by rw [k1]; omega)
  have i1 : itemsOf .seq [rowsD r] = some (r.map rowD) := rfl
  have e0 : p_text_of = [(.asg (.nm 1) (.lst [])), (.forr (.tup [(.nm 2), (.nm 3)]) .seq [(.var 0)] [(.app 1 lineX)]), (.ret (some (.meth .join (.cst (.str "\n")) [(.var 1)])))] := rfl
  rw [List.nil_append, List.map_nil] at e1
  unfold g_text_of
  rw [e0]
  simp only [runB_run, List.map_cons, List.map_nil, List.cons_append, List.nil_append, List.length_cons, List.length_nil, show List.replicate (4 - (0 + 1)) (none : Option D) = [none, none, none] from rfl, ss_cons, s_asg, r_lst, rs_nil, go_ok, if_pos (Nat.zero_le 1000), bT_nm, show (1 : Nat) < 0 + 1 + 1 + 1 + 1 from by decide, if_true, ofO_some, List.set_cons_succ, List.set_cons_zero, nxt_nx, s_for, rs_cons, r_var, getV_run, List.getElem?_cons_zero, List.getElem?_cons_succ, i1, e1, s_ret, r_meth, r_cst, hj, nxt_rt, ret_rt]
/-! ### webs -/
/-- a web's attributes -/
def webL (r : Rows) (w : Str) : List (Str × D) := [("all_rows", rowsD r), ("words", .str w), ("by_place", .dct (rowsL r))]
def webD (r : Rows) (w : Str) : D := .ins 0 [("all_rows", rowsD r), ("words", .str w), ("by_place", .dct (rowsL r))]
def InitOk (F : List D → M D) : Prop := ∀ (r : Rows), RowsOk r → ∃ w, ∀ S, newF F 0 [rowsD r] S = .ok (webD r w) S
theorem lt_pds (n : Nat) : ∀ l : List Nat, D.lts n (l.map pd) = true
  | [] => rfl
  | c :: l => by
    show (D.lt n (pd c) && D.lts n (l.map pd)) = true
    rw [lt_pds n l]
    rfl
theorem lt_what (n : Nat) (w : What) : D.lt n w.d = true := by
  cases w with
  | num q => rfl
  | arr l => exact lt_pds n l
theorem lt_rows (n : Nat) : ∀ r : Rows, D.lts n (r.map rowD) = true
  | [] => rfl
  | (c, w) :: r => by
    show ((D.lt n (pd c) && (D.lt n w.d && true)) && D.lts n (r.map rowD)) = true
    rw [lt_rows n r, lt_what]
    rfl
theorem lt_rowsL (n : Nat) : ∀ r : Rows, D.ltD n (rowsL r) = true
  | [] => rfl
  | (c, w) :: r => by
    show (D.lt n w.d && D.ltD n (rowsL r)) = true
    rw [lt_rowsL n r, lt_what]
    rfl
theorem lt_web (n : Nat) (r : Rows) (w : Str) : D.ltF n [("all_rows", rowsD r), ("words", .str w), ("by_place", .dct (rowsL r))] = true := by
  show (D.lts n (r.map rowD) && (true && (D.ltD n (rowsL r) && true))) = true
  rw [lt_rows, lt_rowsL]
  rfl
theorem newF_of {g : List D → M D} {c : Nat} {ds : List D} {gs : List (Str × D)} (h : g (.obj S.length :: ds) (S ++ [.ins c []]) = .ok .non (S ++ [.ins c gs])) (hl : D.ltF S.length gs = true) : newF g c ds S = .ok (.ins c gs) S := by
  unfold newF
  rw [h]
  have h1 : (S ++ [D.ins c gs])[S.length]? = some (.ins c gs) := by simp
  have h2 : (S ++ [D.ins c gs]).take S.length = S := by simp
  simp only [h1, h2, hl]
  simp
theorem init_ok (hR : RowsOkF (Φ.fn 24)) (hT : TextOk (Φ.fn 25)) : InitOk (g_Web___init__ Φ) := by
  intro r hr
  obtain ⟨w, hw⟩ := hT r hr
  refine ⟨w, fun S => ?_⟩
  have e1 := hR r (S ++ [.ins 0 []]) hr
  have e4 : ∀ S : Sto, biD .dict [rowsD r] S = .ok (.dct (rowsL r)) S := fun S => dict_rows hr
  have g0 : ∀ x : D, (S ++ [x])[S.length]? = some x := fun x => by simp
  have s0 : ∀ x y : D, (S ++ [x]).set S.length y = S ++ [y] := fun x y => by simp
  have p1 : putA "all_rows" (rowsD r) ([] : List (Str × D)) = ([("all_rows", rowsD r)] : List (Str × D)) := rfl
  have p2 : putA "words" (D.str w) [(("all_rows" : Str), rowsD r)] = ([("all_rows", rowsD r), ("words", .str w)] : List (Str × D)) := by
    show (if ("all_rows" : Str) = "words" then _ else _) = _
    rw [if_neg (by decide +kernel)]
    rfl
  have p3 : putA "by_place" (D.dct (rowsL r)) [(("all_rows" : Str), rowsD r), ("words", .str w)] = ([("all_rows", rowsD r), ("words", .str w), ("by_place", .dct (rowsL r))] : List (Str × D)) := by
    show (if ("all_rows" : Str) = "by_place" then _ else (("all_rows" : Str), rowsD r) :: (if ("words" : Str) = "by_place" then _ else _)) = _
    rw [if_neg (by decide +kernel), if_neg (by decide +kernel)]
    rfl
  have f1 : ∀ δ, setFF 0 "all_rows" (.obj S.length) (rowsD r) δ (S ++ [.ins 0 []]) = .ok (.nx δ) (S ++ [.ins 0 [("all_rows", rowsD r)]]) := fun δ => by
    show (match (S ++ [D.ins 0 []])[S.length]? with
      | some (.ins c' l) => if c' = 0 ∧ l.length < 900 then Out.ok (Fl.nx δ) ((S ++ [D.ins 0 []]).set S.length (.ins c' (putA "all_rows" (rowsD r) l))) else .no
      | _ => .no) = _
    rw [g0]
    simp only [p1, s0]
    simp
  have f2 : ∀ δ, setFF 0 "words" (.obj S.length) (.str w) δ (S ++ [.ins 0 [("all_rows", rowsD r)]]) = .ok (.nx δ) (S ++ [.ins 0 [("all_rows", rowsD r), ("words", .str w)]]) := fun δ => by
    show (match (S ++ [D.ins 0 [("all_rows", rowsD r)]])[S.length]? with
      | some (.ins c' l) => if c' = 0 ∧ l.length < 900 then Out.ok (Fl.nx δ) ((S ++ [D.ins 0 [("all_rows", rowsD r)]]).set S.length (.ins c' (putA "words" (.str w) l))) else .no
      | _ => .no) = _
    rw [g0]
    simp only [p2, s0]
    simp
  have f3 : ∀ δ, setFF 0 "by_place" (.obj S.length) (.dct (rowsL r)) δ (S ++ [.ins 0 [("all_rows", rowsD r), ("words", .str w)]]) = .ok (.nx δ) (S ++ [webD r w]) := fun δ => by
    show (match (S ++ [D.ins 0 [("all_rows", rowsD r), ("words", .str w)]])[S.length]? with
      | some (.ins c' l) => if c' = 0 ∧ l.length < 900 then Out.ok (Fl.nx δ) ((S ++ [D.ins 0 [("all_rows", rowsD r), ("words", .str w)]]).set S.length (.ins c' (putA "by_place" (.dct (rowsL r)) l))) else .no
      | _ => .no) = _
    rw [g0]
    simp only [p3, s0]
    simp [webD]
  have run : g_Web___init__ Φ (.obj S.length :: [rowsD r]) (S ++ [.ins 0 []]) = .ok .non (S ++ [webD r w]) := by
    unfold g_Web___init__ p_Web___init__
    simp only [runB_run, List.map_cons, List.map_nil, List.cons_append, List.nil_append, List.length_cons, List.length_nil, show List.replicate (2 - (0 + 1 + 1)) (none : Option D) = [] from rfl, List.append_nil, ss_cons, ss_nil, s_iff, r_not, r_call, rs_cons, rs_nil, r_var, getV_run, List.getElem?_cons_zero, List.getElem?_cons_succ, go_ok, e1, bool_bl, Bool.not_true, if_neg (show ¬ (false = true) from by decide), nxt_nx, s_setF, f1, hw, f2, r_bi, e4, f3]
    rfl
  exact newF_of run (lt_web _ _ _)
/-! ### attributes, properties -/
theorem look_by : (webL r w).lookup ("by_place" : Str) = some (.dct (rowsL r)) := by
  unfold webL
  rw [List.lookup_cons, show (("by_place" : Str) == "all_rows") = false from by decide +kernel]
  show (List.lookup ("by_place" : Str) (("words", .str w) :: _)) = _
  rw [List.lookup_cons, show (("by_place" : Str) == "words") = false from by decide +kernel]
  exact List.lookup_cons_self
theorem look_rows : (webL r w).lookup ("all_rows" : Str) = some (rowsD r) := List.lookup_cons_self
theorem fld_of {f : Str} (h : (webL r w).lookup f = some x) : fldF 0 f (webD r w) S = .ok x S := by
  show (if (0 : Nat) = 0 then (match (webL r w).lookup f with
    | some d => Out.ok d S
    | none => Out.no) else Out.no) = _
  rw [h]
  rfl
theorem fld_rows : fldF 0 "all_rows" (webD r w) S = .ok (rowsD r) S := fld_of look_rows
theorem fld_by : fldF 0 "by_place" (webD r w) S = .ok (.dct (rowsL r)) S := fld_of look_by
theorem prop_web {g : List D → M D} : propF g 0 (webD r w) S = g [webD r w] S := rfl
theorem mth_web {nm : Str} (h : (webL r w).lookup nm = none) : mthC 0 nm (webD r w) S = .ok () S := by
  show (if (0 : Nat) = 0 ∧ (webL r w).lookup nm = none then Out.ok () S else .no) = _
  rw [if_pos ⟨rfl, h⟩]
theorem mth_not {nm : Str} (h1 : (nm == "all_rows") = false) (h2 : (nm == "words") = false) (h3 : (nm == "by_place") = false) : (webL r w).lookup nm = none := by
  unfold webL
  rw [List.lookup_cons, h1]
  show (List.lookup nm ((("words" : Str), D.str w) :: _)) = _
  rw [List.lookup_cons, h2]
  show (List.lookup nm ((("by_place" : Str), D.dct (rowsL r)) :: _)) = _
  rw [List.lookup_cons, h3]
  rfl
def CheckWebOk (F : List D → M D) : Prop := ∀ (r : Rows) (w : Str) (S : Sto), F [webD r w] S = .ok .non S
theorem checkWeb_ok (h : 0 < Φ.nc) : CheckWebOk (g_check_web Φ) := by
  intro r w S
  unfold g_check_web p_check_web
  have e1 : isD Φ.nc S (.cls 0) (webD r w) = some true := by
    show (if decide (0 < Φ.nc) = true then some (isTy (.cls 0) (webD r w)) else none) = _
    rw [if_pos (by simpa using h)]
    rfl
  simp [runB_run, e1]
def WebRowsOk (F : List D → M D) : Prop := ∀ (r : Rows) (w : Str) (S : Sto), F [webD r w] S = .ok (rowsD r) S
theorem webRows_ok : WebRowsOk (g_Web_rows Φ) := by
  intro r w S
  unfold g_Web_rows p_Web_rows
  simp [runB_run, fld_rows]
def CheckPlaceOk (F : List D → M D) : Prop := ∀ (r : Rows) (w : Str) (c : Nat) (S : Sto), RowsOk r → c ∈ places r → F [webD r w, pd c] S = .ok .non S
theorem c_ninRows (hr : RowsOk r) (hc : c ∈ places r) : cmpD .nin (pd c) (.dct (rowsL r)) S = .ok (.bl false) S := by
  show (match (some (hasKey (rowsL r) (.inr (sgn c))) : Option Bool) with
    | some r => Out.ok (D.bl (!r)) S
    | none => .no) = _
  unfold hasKey
  rw [dget_rows hr.nodup hc]
  rfl
theorem checkPlace_ok : CheckPlaceOk (g_Web_check_place Φ) := by
  intro r w c S hr hc
  have e1 : isD Φ.nc S .str (pd c) = some true := rfl
  unfold g_Web_check_place p_Web_check_place
  simp [runB_run, e1, fld_by, c_ninRows hr hc]
/-! ### needs, need -/
end
end RF
end
section
set_option linter.all false
set_option autoImplicit false
/-! RfLib: the laws' own functions as terms (printed by gen.py). -/
namespace RF
open PySem (Str)
end RF
end
section
set_option linter.all false
set_option maxRecDepth 100000
set_option maxHeartbeats 4000000
set_option autoImplicit false
/-! RfHelp: the helpers that the laws share: urns, own fractions, letters, parts. -/
namespace RF
open PySem (Str)
def PU : Int := 2147482873
/-- the n-th thing of the store is an urn -/
def UrnAt (S : Sto) (n : Nat) : Prop := ∃ a b : Int, S[n]? = some (.lst [.int a, .int b]) ∧ 0 ≤ a ∧ 0 ≤ b ∧ b < PU
/-- only the urn may be another one -/
def Moves (n : Nat) (S S' : Sto) : Prop := UrnAt S' n ∧ S'.length = S.length ∧ ∀ m, m ≠ n → S'[m]? = S[m]?
section
variable {Φ : Fns} {k c e t n : Nat} {a b q s v : Rat} {S S1 S2 : Sto} {d o : D} {l m ks js : List Nat} {i j : Int} {δ : En}
theorem Moves.trans (h : Moves n S S1) (g : Moves n S1 S2) : Moves n S S2 := ⟨g.1, g.2.1.trans h.2.1, fun m hm => (g.2.2 m hm).trans (h.2.2 m hm)⟩
theorem Moves.refl (h : UrnAt S n) : Moves n S S := ⟨h, rfl, fun _ _ => rfl⟩
noncomputable def obTX (Φ : Fns) (i : Nat) (k : X) (j : Nat) (δ : En) : D → M Fl
  | .tup [a, b] => do
      let o ← getV δ i
      let q ← denX Φ k δ
      match ← setObF o q a δ with
      | .nx δ' => do pure (.nx (← M.ofO (bindT (.nm j) b δ')))
      | _ => M.no
  | _ => M.no
theorem s_obT {N i j : Nat} {k e : X} : denS Φ N (.obT i k j e) δ S = (denX Φ e δ S).go (obTX Φ i k j δ) := by
  refine bind_go.trans (congrArg (Out.go _) (funext fun d => funext fun s => ?_))
  match d with
  | .tup [a, b] => rfl
  | .tup [] | .tup [_] | .tup (_ :: _ :: _ :: _) | .non | .bl _ | .int _ | .str _ | .lst _ | .dct _ | .ins _ _ | .obj _ | .frz _ => rfl
theorem obTX_run {i j : Nat} {k : X} {a b o q : D} {δ' δ'' : En} (h1 : getV δ i S = .ok o S) (h2 : denX Φ k δ S = .ok q S) (h3 : setObF o q a δ S = .ok (.nx δ') S1) (h4 : bindT (.nm j) b δ' = some δ'') : obTX Φ i k j δ (.tup [a, b]) S = .ok (.nx δ'') S1 := by
  show (getV δ i >>= fun o => denX Φ k δ >>= fun q => setObF o q a δ >>= fun fl => (match fl with
      | .nx δ' => (M.ofO (bindT (.nm j) b δ') >>= fun δ'' => pure (.nx δ'') : M Fl)
      | _ => M.no)) S = _
  simp only [M.bind_run, h1, h2, h3, h4]
  rfl
theorem setOb_run {l : List D} {m : Nat} (h : S[n]? = some (.lst l)) (hi : ixOf l.length i = some m) : setObF (.obj n) (.int i) d δ S = .ok (.nx δ) (S.set n (.lst (l.set m d))) := by
  show (match S[n]?, (D.int i) with
    | some (.lst l), .int j => (match ixOf l.length j with
      | some m => (.ok (.nx δ) (S.set n (.lst (l.set m d))) : Out Fl)
      | none => .no)
    | some (.dct l), q => (match keyOf q with
      | some m => if l.length < line then .ok (.nx δ) (S.set n (.dct (dput l m d))) else .no
      | none => .no)
    | _, _ => .no) = _
  rw [h]
  dsimp only
  rw [hi]
theorem ixF_obj {l : List D} {x : D} (h : S[n]? = some (.lst l)) (hx : atI l i = some x) : ixF (.obj n) (.int i) S = .ok x S := ixF_of (by
  show (match S[n]? with
    | some (.lst l) => atI l i
    | _ => none) = _
  rw [h]
  exact hx)
theorem mul_small {x y : Int} (hx : x.natAbs < 2 ^ 100) (hy : y.natAbs < 2 ^ 100) : mulOk x y = true := mulOk_of hx hy (by decide) (by decide)
/-! ### own fractions -/
end
end RF
end
section
set_option linter.all false
set_option maxRecDepth 100000
set_option maxHeartbeats 4000000
set_option autoImplicit false
/-! RfHelp2: parts, letters, urns. -/
namespace RF
open PySem (Str)
def isPart (q : Rat) : Prop := (0 ≤ q ∧ q ≤ 1) ∧ q.den ≤ MB
section
variable {Φ : Fns} {k c e t n : Nat} {a b q s v : Rat} {S S1 S2 : Sto} {d o : D} {l m ks js : List Nat} {i j : Int} {δ : En}
theorem part_mk {t : Nat} {b : Nat} (h0 : 0 < b) (ht : t ≤ b) (hb : b ≤ MB) : isPart (mkRat t b) := by
  have hb0 : b ≠ 0 := by omega
  have e1 : (mkRat t b).num = ((t / Nat.gcd b t : Nat) : Int) := by
    rw [Rat.num_mkRat, if_neg hb0]
    rfl
  have e2 : (mkRat t b).den = b / Nat.gcd b t := by
    rw [Rat.den_mkRat, if_neg hb0]
    rfl
  refine ⟨⟨?_, ?_⟩, ?_⟩
  · rw [← Rat.num_nonneg, e1]
    exact Int.natCast_nonneg _
  · rw [Rat.le_iff, e1, e2]
    have := Nat.div_le_div_right (c := Nat.gcd b t) ht
    show ((t / Nat.gcd b t : Nat) : Int) * ((1 : Nat) : Int) ≤ 1 * ((b / Nat.gcd b t : Nat) : Int)
    omega
  · rw [e2]
    exact Nat.le_trans (Nat.div_le_self _ _) hb
theorem pow_run {x y : Int} (h : powOk x y = true) : binD .pow (.int x) (.int y) S = .ok (.int (x ^ y.toNat)) S := by rw [b_pow, if_pos h]
theorem p18 : binD .pow (.int 10) (.int 18) S = .ok (.int 1000000000000000000) S := by rw [pow_run (by decide +kernel)]; rfl
/-! ### letters -/
theorem letters_at {i : Nat} (h : i < 26) : ixF (.str LETTERS) (.int i) S = .ok (pd (97 + i)) S := by
  have hl : LETTERS.cps.toList = (List.range 26).map (· + 97) := by decide +kernel
  have h1 : LETTERS.length ≤ line := by decide +kernel
  refine ixF_of ?_
  show (if LETTERS.length ≤ line then (atI LETTERS.cps.toList i).map (fun c => D.str (sgn c)) else none) = _
  rw [if_pos h1, hl, atI_map (· + 97) (List.range 26) i (x := i) (by simp [h])]
  simp [pd, Nat.add_comm]
/-! ### a new urn -/
end
end RF
end
section
set_option linter.all false
set_option maxRecDepth 100000
set_option maxHeartbeats 4000000
set_option autoImplicit false
/-! RfPath: paths between two ends (k78). -/
namespace RF
open PySem (Str)
end RF
end
section
set_option linter.all false
set_option maxRecDepth 100000
set_option maxHeartbeats 4000000
set_option autoImplicit false
/-! RfPath2: the law's own path, and what it asks of it (k78). -/
namespace RF
open PySem (Str)
end RF
end
section
set_option linter.all false
set_option maxRecDepth 100000
set_option maxHeartbeats 4000000
set_option autoImplicit false
/-! RfPath3: claims about a path are judged right (k78). -/
namespace RF
open PySem (Str)
end RF
end
section
set_option linter.all false
set_option maxRecDepth 100000
set_option maxHeartbeats 4000000
set_option autoImplicit false
/-! RfFork: one place with arrows to two ends (k78). -/
namespace RF
open PySem (Str)
def t3 (c0 c1 : Nat) (x y z : Rat) (c : Nat) : Rat := if c = c0 then x else if c = c1 then y else z
end RF
end
section
set_option linter.all false
set_option maxRecDepth 100000
set_option maxHeartbeats 4000000
set_option autoImplicit false
/-! RfFork2: claims about one place with arrows to two ends are judged right (k78). -/
namespace RF
open PySem (Str)
end RF
end
section
set_option linter.all false
set_option maxRecDepth 100000
set_option maxHeartbeats 4000000
set_option autoImplicit false
/-! RfAll: a law that asks by each of some urns. -/
namespace RF
open PySem (Str)
end RF
end
section
set_option linter.all false
set_option maxRecDepth 100000
set_option maxHeartbeats 4000000
set_option autoImplicit false
/-! RfNone: claims that are none (k77). -/
namespace RF
open PySem (Str)
end RF
end
section
set_option linter.all false
set_option maxRecDepth 100000
set_option maxHeartbeats 4000000
set_option autoImplicit false
/-! RfGrid: what the laws' _law_grid needs: tips, lost places, mixed letters. -/
namespace RF
open PySem (Str)
section
variable {Φ : Fns} {S : Sto} {r : Rows} {δ : En}
/-! ### the places from which no arrows lead to an end -/
def small1 (l : List Nat) : Prop := ∀ t ∈ l, t < 1114112
theorem plains_pd : ∀ {l : List Nat}, small1 l → D.plains (l.map pd) = true
  | [], _ => rfl
  | c :: l, h => by
    have h1 : D.plain (pd c) = true := by
      have : c < 1114112 := h c (by simp)
      show (#[c].all (· < 1114112)) = true
      simp [this]
    show (D.plain (pd c) && D.plains (l.map pd)) = true
    rw [h1, plains_pd fun t ht => h t (List.mem_cons_of_mem _ ht)]
    rfl
theorem deeps_pd : ∀ {l : List Nat}, D.deeps (l.map pd) ≤ 1
  | [] => by decide
  | c :: l => by
    have := deeps_pd (l := l)
    show max (D.deep (pd c)) (D.deeps (l.map pd)) ≤ 1
    have : D.deep (pd c) = 0 := rfl
    omega
theorem c_neNil {l : List Nat} (h : small1 l) : cmpD .ne (.lst (l.map pd)) (.lst []) S = .ok (.bl (!l.isEmpty)) S := by
  have h1 : okEq (.lst (l.map pd)) (.lst []) = true := by
    have e1 : D.plain (.lst (l.map pd)) = true := plains_pd h
    have e2 : D.deep (.lst (l.map pd)) ≤ 60 := by
      show D.deeps (l.map pd) + 1 ≤ 60
      have := deeps_pd (l := l)
      omega
    unfold okEq
    rw [e1, decide_eq_true e2]
    rfl
  show (if okEq (.lst (l.map pd)) (.lst []) then (pure (.bl (!D.eqv (.lst (l.map pd)) (.lst []))) : M D) else M.no) S = _
  rw [if_pos h1]
  cases l <;> rfl
theorem filter_empty {α : Type} (p : α → Bool) : ∀ l : List α, (l.filter p).isEmpty = !l.any p
  | [] => rfl
  | x :: l => by
    cases h : p x with
    | true => simp [List.filter_cons, h]
    | false => rw [List.filter_cons_of_neg (by simp [h]), filter_empty p l]; simp [h]
end
end RF
end
section
set_option linter.all false
set_option maxRecDepth 100000
set_option maxHeartbeats 4000000
set_option autoImplicit false
/-! RfGrid2: one of some signs, signs in a drawn order, something else at a place, signs in ascending order. -/
namespace RF
open PySem (Str)
section
variable {Φ : Fns} {S : Sto} {r : Rows} {δ : En}
/-! ### a drawn order -/
/-! ### something else at a place -/
/-! ### ascending, each once -/
def insN (x : Nat) : List Nat → List Nat
  | [] => [x]
  | y :: r => if x = y then y :: r else if x ≤ y then x :: y :: r else y :: insN x r
def sortN : List Nat → List Nat
  | [] => []
  | x :: r => insN x (sortN r)
theorem strLe_sgn (x y : Nat) : strLe (sgn x) (sgn y) = decide (x ≤ y) := by
  unfold strLe
  rw [sgn_list, sgn_list]
  have : ([x] ≤ [y]) ↔ x ≤ y := by
    rw [← List.not_lt, ← Nat.not_lt, List.cons_lt_cons_iff]
    simp
  simp [this]
theorem insU_sgn (x : Nat) : ∀ l : List Nat, insertU (sgn x) (l.map sgn) = (insN x l).map sgn
  | [] => rfl
  | y :: l => by
    rw [List.map_cons]
    unfold insertU insN
    by_cases h : x = y
    · subst h
      rw [if_pos rfl, if_pos rfl]
      rfl
    · rw [if_neg (fun z => h (sgn_inj.mp z)), if_neg h, strLe_sgn]
      by_cases h2 : x ≤ y
      · rw [if_pos (by simpa using h2), if_pos h2]; rfl
      · rw [if_neg (by simpa using h2), if_neg h2, insU_sgn x l]; rfl
theorem sortU_sgn : ∀ l : List Nat, sortU (l.map sgn) = (sortN l).map sgn
  | [] => rfl
  | x :: l => by
    show insertU (sgn x) (sortU (l.map sgn)) = _
    rw [sortU_sgn l, insU_sgn]
    rfl
theorem mem_insN (x y : Nat) : ∀ l : List Nat, y ∈ insN x l ↔ y = x ∨ y ∈ l
  | [] => by simp [insN]
  | z :: r => by
    unfold insN
    split
    · rename_i e
      subst e
      simp
    · split
      · simp
      · rw [List.mem_cons, mem_insN x y r, List.mem_cons]
        exact ⟨fun h => by rcases h with h | h | h <;> simp [h], fun h => by rcases h with h | h | h <;> simp [h]⟩
theorem mem_sortN (y : Nat) : ∀ l : List Nat, y ∈ sortN l ↔ y ∈ l
  | [] => Iff.rfl
  | x :: r => by
    show y ∈ insN x (sortN r) ↔ _
    rw [mem_insN, mem_sortN y r, List.mem_cons]
theorem insN_pw (x : Nat) : ∀ l : List Nat, l.Pairwise (· < ·) → (insN x l).Pairwise (· < ·)
  | [], _ => List.pairwise_singleton _ _
  | y :: r, h => by
    obtain ⟨h1, h2⟩ := List.pairwise_cons.mp h
    unfold insN
    split
    · exact h
    · split
      · refine List.pairwise_cons.mpr ⟨fun a ha => ?_, h⟩
        rcases List.mem_cons.mp ha with e | e
        · omega
        · have := h1 a e; omega
      · refine List.pairwise_cons.mpr ⟨fun a ha => ?_, insN_pw x r h2⟩
        rcases (mem_insN x a r).mp ha with e | e
        · omega
        · exact h1 a e
theorem sortN_pw : ∀ l : List Nat, (sortN l).Pairwise (· < ·)
  | [] => List.Pairwise.nil
  | x :: r => insN_pw x _ (sortN_pw r)
theorem insN_len (x : Nat) : ∀ l : List Nat, (insN x l).length ≤ l.length + 1
  | [] => by simp [insN]
  | y :: r => by
    unfold insN
    split
    · simp
    · split
      · simp
      · have := insN_len x r
        simp only [List.length_cons]
        omega
theorem sortN_len : ∀ l : List Nat, (sortN l).length ≤ l.length
  | [] => by simp [sortN]
  | x :: r => by
    have h1 := sortN_len r
    have h2 := insN_len x (sortN r)
    show (insN x (sortN r)).length ≤ _
    simp only [List.length_cons]
    omega
theorem strs_pd : ∀ l : List Nat, strsOf (l.map pd) = some (l.map sgn)
  | [] => rfl
  | x :: l => by
    show (strsOf (l.map pd)).map (sgn x :: ·) = _
    rw [strs_pd l]
    rfl
theorem srt_pd {l : List Nat} (h : l.length < 64) : srtF (.tup (l.map pd)) S = .ok (.lst ((sortN l).map pd)) S := by
  show (match strsOf (l.map pd) with
    | some xs => if xs.length < 64 then (pure (.lst ((sortU xs).map .str)) : M D) else M.no
    | none => M.no) S = _
  rw [strs_pd]
  dsimp only
  rw [if_pos (by rw [List.length_map]; exact h), sortU_sgn, List.map_map]
  rfl
end
end RF
end
section
set_option linter.all false
set_option maxRecDepth 100000
set_option maxHeartbeats 4000000
set_option autoImplicit false
/-! RfGrid3: the laws' _law_grid: rows of a web that are right. -/
namespace RF
open PySem (Str)
end RF
end
section
set_option linter.all false
set_option maxRecDepth 100000
set_option maxHeartbeats 4000000
set_option autoImplicit false
/-! RfGrid4: the laws' _law_grid, to its end. -/
namespace RF
open PySem (Str)
section
variable {Φ : Fns} {S : Sto} {r : Rows} {δ : En}
theorem let_small {c : Nat} (h : isLet c = true) : c < 1114112 := by
  unfold isLet at h
  have : 97 ≤ c ∧ c ≤ 122 := by simpa using h
  omega
end
end RF
end
section
set_option linter.all false
set_option maxRecDepth 100000
set_option maxHeartbeats 4000000
set_option autoImplicit false
/-! RfPaper: papers of any kind: tables within moves. -/
namespace RF
open PySem (Str)
end RF
end
section
set_option linter.all false
set_option maxRecDepth 100000
set_option maxHeartbeats 4000000
set_option autoImplicit false
/-! RfBehind: the laws' own tables within moves. -/
namespace RF
open PySem (Str)
end RF
end
section
set_option linter.all false
set_option maxRecDepth 100000
set_option maxHeartbeats 4000000
set_option autoImplicit false
/-! RfPap2: papers near the right ones (k75). -/
namespace RF
open PySem (Str)
end RF
end
section
set_option linter.all false
set_option maxRecDepth 100000
set_option maxHeartbeats 4000000
set_option autoImplicit false
/-! RfPap3: the law's _law_papers (k75). -/
namespace RF
open PySem (Str)
end RF
end
section
set_option linter.all false
set_option maxRecDepth 100000
set_option maxHeartbeats 4000000
set_option autoImplicit false
/-! RfTb2: the laws' own words on tables: whether numbers are the table; the table as the program tells it; which bids are due. -/
namespace RF
open PySem (Str)
section
variable {Φ : Fns} {k c e n m t j : Nat} {a b q v : Rat} {S : Sto} {d : D} {l ks js : List Nat} {r : Rows} {f g : Nat → Rat} {w : Str} {δ : En}
/-! ### _law_is_table -/
/-! ### _law_table -/
def InitF (F : List D → M D) : Prop := ∀ (r : Rows), RowsOk r → ∃ w, ∀ S, newF F 0 [rowsD r] S = .ok (webD r w) S
end
end RF
end
section
set_option linter.all false
set_option maxRecDepth 100000
set_option maxHeartbeats 4000000
set_option autoImplicit false
/-! RfDue: which bids are due; bids near what is safe; places and ends. -/
namespace RF
open PySem (Str)
section
variable {Φ : Fns} {k c e n m t j : Nat} {a b q s v : Rat} {S : Sto} {d : D} {l ks js : List Nat} {r : Rows} {f g : Nat → Rat} {w : Str} {δ : En}
theorem sz_add2 {j : Nat} (ha : sz k a) (hb : sz j b) : sz (k + j + 1) (a + b) := by
  rw [Rat.add_def']
  have e : (2 : Nat) ^ (k + j + 1) = 2 ^ k * 2 ^ j + 2 ^ k * 2 ^ j := by
    rw [Nat.pow_succ, Nat.pow_add]; omega
  have h1 : a.num.natAbs * b.den < 2 ^ k * 2 ^ j := Nat.mul_lt_mul_of_lt_of_le ha.1 (Nat.le_of_lt hb.2) (Nat.two_pow_pos _)
  have h2 : b.num.natAbs * a.den < 2 ^ k * 2 ^ j := by
    rw [Nat.mul_comm (2 ^ k)]
    exact Nat.mul_lt_mul_of_lt_of_le hb.1 (Nat.le_of_lt ha.2) (Nat.two_pow_pos _)
  have h3 : a.den * b.den < 2 ^ k * 2 ^ j := Nat.mul_lt_mul_of_lt_of_le ha.2 (Nat.le_of_lt hb.2) (Nat.two_pow_pos _)
  refine sz_mk (Nat.mul_ne_zero a.den_nz b.den_nz) ?_ (by omega)
  have := Int.natAbs_add_le (a.num * b.den) (b.num * a.den)
  rw [Int.natAbs_mul, Int.natAbs_mul, Int.natAbs_natCast, Int.natAbs_natCast] at this
  omega
/-! ### places that are no ends, ends -/
/-! ### what is due -/
/-! ### bids near what is safe -/
theorem qd_mk2 {q : Rat} {i : Int} {j : Nat} (h1 : q.num = i) (h2 : q.den = j) : D.tup [.int i, .int j] = qd q := by unfold qd; rw [h1, h2]
end
end RF
end
section
set_option linter.all false
set_option maxRecDepth 100000
set_option maxHeartbeats 4000000
set_option autoImplicit false
/-! RfNo: papers that are not the needs; one of a tuple. -/
namespace RF
open PySem (Str)
end RF
end
section
set_option linter.all false
set_option maxRecDepth 100000
set_option maxHeartbeats 4000000
set_option autoImplicit false
/-! RfShow: what repr can write, and == can compare. -/
namespace RF
open PySem (Str PyData)
structure Nice (h w : Nat) (d : D) : Prop where
  plain : D.plain d = true
  deep : D.deep d ≤ h
  show_ : d.py.showable = true
  short : d.py.leavesShort 250 = true
  weight : d.py.weight ≤ w
section
variable {h w h' w' : Nat} {d : D} {l : List D} {S : Sto} {r : Rows} {x : Nat → Rat} {q : Rat} {c : Nat}
theorem Nice.mono (n : Nice h w d) (a : h ≤ h') (b : w ≤ w') : Nice h' w' d := ⟨n.plain, Nat.le_trans n.deep a, n.show_, n.short, Nat.le_trans n.weight b⟩
theorem Nice.ok (n : Nice h w d) (hh : h ≤ 60) (hw : w ≤ 65000) : showOk d = true := by
  unfold showOk
  have h1 : d.text.length ≤ line := by
    have := PyData.shown_le 250 (by decide) d.py n.short
    have h2 := n.weight
    show d.py.shown.length ≤ 16777216
    have : (250 + 2) * d.py.weight ≤ 252 * 65000 := Nat.mul_le_mul (Nat.le_refl _) (by omega)
    omega
  rw [n.plain, n.show_, decide_eq_true (Nat.le_trans n.deep hh), decide_eq_true h1]
  rfl
end
end RF
end
section
set_option linter.all false
set_option maxRecDepth 100000
set_option maxHeartbeats 4000000
set_option autoImplicit false
/-! RfR76: k76's own function (printed by mk76.py from RfR76.tmpl). -/
namespace RF
open PySem (Str)
end RF
end
section
set_option linter.all false
set_option maxRecDepth 100000
set_option maxHeartbeats 4000000
set_option autoImplicit false
/-! RfCert: the program's certificates on needs. -/
namespace RF
open PySem (Str)
section
variable {Φ : Fns} {k c e n m t i j : Nat} {a b q s v : Rat} {S : Sto} {d P : D} {l ks js : List Nat} {r : Rows} {f g x : Nat → Rat} {w : Str} {δ : En}
theorem mth_check : mthC 0 "check_place" (webD r w) S = .ok () S := mth_web (mth_not (by decide +kernel) (by decide +kernel) (by decide +kernel))
end
end RF
end
section
set_option linter.all false
set_option maxRecDepth 100000
set_option maxHeartbeats 4000000
set_option autoImplicit false
/-! RfMore: an arrow more: the web with it, its needs. -/
namespace RF
open PySem (Str)
section
variable {Φ : Fns} {k c e n m t i j : Nat} {a b q s v : Rat} {S : Sto} {d P : D} {l l' ks js : List Nat} {r : Rows} {f g x y : Nat → Rat} {w : Str} {δ : En}
/-! ### sorted -/
theorem insU_mem {a : Str} : ∀ {l : List Str} {b : Str}, b ∈ insertU a l → b = a ∨ b ∈ l
  | [], b, h => .inl (by simpa [insertU] using h)
  | z :: l, b, h => by
    unfold insertU at h
    split at h
    · exact .inr h
    · split at h
      · rcases List.mem_cons.mp h with h | h
        · exact .inl h
        · exact .inr h
      · rcases List.mem_cons.mp h with h | h
        · exact .inr (by rw [h]; simp)
        · rcases insU_mem h with h | h
          · exact .inl h
          · exact .inr (List.mem_cons_of_mem _ h)
theorem sortU_mem : ∀ {l : List Str} {b : Str}, b ∈ sortU l → b ∈ l
  | [], b, h => h
  | a :: l, b, h => by
    rcases insU_mem (show b ∈ insertU a (sortU l) from h) with h | h
    · rw [h]; simp
    · exact List.mem_cons_of_mem _ (sortU_mem h)
theorem insS_U {a : Str} : ∀ {l : List Str}, a ∉ l → insertS a l = insertU a l
  | [], _ => rfl
  | z :: l, h => by
    show (if strLe a z = true then a :: z :: l else z :: insertS a l) = if a = z then z :: l else if strLe a z = true then a :: z :: l else z :: insertU a l
    have hne : a ≠ z := fun e => h (by rw [e]; simp)
    rw [if_neg hne, insS_U (l := l) fun y => h (List.mem_cons_of_mem _ y)]
theorem sortS_U : ∀ {l : List Str}, l.Nodup → sortS l = sortU l
  | [], _ => rfl
  | a :: l, h => by
    obtain ⟨h1, h2⟩ := List.nodup_cons.mp h
    show insertS a (sortS l) = insertU a (sortU l)
    rw [sortS_U h2, insS_U fun y => h1 (sortU_mem y)]
theorem sgn_nodup : ∀ {l : List Nat}, l.Nodup → (l.map sgn).Nodup
  | [], _ => .nil
  | a :: l, h => by
    obtain ⟨h1, h2⟩ := List.nodup_cons.mp h
    rw [List.map_cons]
    refine List.nodup_cons.mpr ⟨fun y => ?_, sgn_nodup h2⟩
    obtain ⟨b, hb, e⟩ := List.mem_map.mp y
    rw [sgn_inj.mp e] at hb
    exact h1 hb
theorem f_sortedT (hl : l.length < 64) (hn : l.Nodup) : biD .sorted [.tup (l.map pd)] S = .ok (.lst ((sortN l).map pd)) S := by
  show (match strsOf (l.map pd) with
    | some xs => if xs.length < 64 then (pure (.lst ((sortS xs).map .str)) : M D) else M.no
    | none => M.no) S = _
  rw [strs_pd]
  dsimp only
  rw [if_pos (by rw [List.length_map]; exact hl), sortS_U (sgn_nodup hn), sortU_sgn, List.map_map]
  rfl
/-! ### rows with an arrow more -/
theorem RowsOk.pre (hr : RowsOk r) : PreOk r := ⟨hr.len, hr.lets, hr.what, hr.asc, hr.to⟩
/-! ### what the arrow changes -/
theorem min_max (h0 : l ≠ []) : minL l f ≤ maxL l f := by
  obtain ⟨b, hb, eb⟩ := minL_mem (f := f) h0
  have := maxL_le (f := f) hb
  grind
/-! ### the program's words -/
end
end RF
end
section
set_option linter.all false
set_option maxRecDepth 100000
set_option maxHeartbeats 4000000
set_option autoImplicit false
/-! RfPol2: a table of lesser ends is nowhere greater (printed by mkpol2.py from RfPol). -/
namespace RF
end RF
end
section
set_option linter.all false
set_option maxRecDepth 100000
set_option maxHeartbeats 4000000
set_option autoImplicit false
/-! RfTip: another number at an end: the web with it, its needs. -/
namespace RF
open PySem (Str)
end RF
end
section
set_option linter.all false
set_option maxRecDepth 100000
set_option maxHeartbeats 4000000
set_option autoImplicit false
/-! RfWp: runs forward, step by step: what a run must end in. -/
namespace RF
open PySem (Str)
section
variable {α β γ : Type} {Φ : Fns} {N n i : Nat} {S S' : Sto} {δ δ' : En} {d v : D} {st : RF.S} {sl : List RF.S} {t : Tg}
/-- not to be touched by simp -/
theorem hide {α : Sort _} (f : α) : ∃ g : α, g = f := ⟨f, rfl⟩
theorem range_split {m x : Nat} {done todo : List Nat} (e : List.range' 0 m = done ++ x :: todo) : x = done.length ∧ x < m := by
  have h : (List.range' 0 m)[done.length]? = some x := by rw [e]; simp
  rw [← List.range_eq_range'] at h
  obtain ⟨h1, h2⟩ := List.getElem?_eq_some_iff.mp h
  rw [List.getElem_range] at h2
  rw [List.length_range] at h1
  omega
/-- it ends, and so -/
def Run (x : Out α) (P : α → Sto → Prop) : Prop := ∃ a s, x = .ok a s ∧ P a s
theorem Run.ok {P : α → Sto → Prop} {a : α} (h : P a S) : Run (.ok a S) P := ⟨a, S, rfl, h⟩
@[simp] theorem run_ok {P : α → Sto → Prop} {a : α} : Run (.ok a S) P ↔ P a S := ⟨fun ⟨_, _, e, h⟩ => by cases e; exact h, Run.ok⟩
@[simp] theorem run_no {P : α → Sto → Prop} : Run (.no : Out α) P ↔ False := ⟨fun ⟨_, _, e, _⟩ => (nomatch e), False.elim⟩
theorem Run.mono {x : Out α} {P Q : α → Sto → Prop} (h : Run x P) (hp : ∀ a s, P a s → Q a s) : Run x Q := by
  obtain ⟨a, s, e, h⟩ := h
  exact ⟨a, s, e, hp a s h⟩
theorem Run.ex {x : Out α} {P : α → Sto → Prop} (h : Run x P) : ∃ a s, x = .ok a s ∧ P a s := h
theorem run_go {x : Out α} {k : α → M β} {Q : β → Sto → Prop} (h : Run x fun a s => Run (k a s) Q) : Run (x.go k) Q := by
  obtain ⟨a, s, rfl, h⟩ := h
  rwa [go_ok]
theorem run_bool {x : Out D} {Q : Bool → Sto → Prop} (h : Run x fun a s => Run (asB a s) Q) : Run x.bool Q := run_go h
/-- statements, one after another -/
structure RunB (Φ : Fns) (N : Nat) (sl : List RF.S) (δ : En) (S : Sto) (P : Fl → Sto → Prop) : Prop where
  h : Run (denSs Φ N sl δ S) P
/-- behind a statement -/
def Post (Φ : Fns) (N : Nat) (sl : List RF.S) (P : Fl → Sto → Prop) : Fl → Sto → Prop
  | .nx δ, s => RunB Φ N sl δ s P
  | fl, s => P fl s
variable {P : Fl → Sto → Prop}
@[simp] theorem post_nx : Post Φ N sl P (.nx δ) S ↔ RunB Φ N sl δ S P := Iff.rfl
@[simp] theorem post_rt : Post Φ N sl P (.rt v) S ↔ P (.rt v) S := Iff.rfl
@[simp] theorem post_bk : Post Φ N sl P (.bk δ) S ↔ P (.bk δ) S := Iff.rfl
theorem runB_nil (h : P (.nx δ) S) : RunB Φ N [] δ S P := ⟨by rw [ss_nil]; exact .ok h⟩
@[simp] theorem runB_nil' : RunB Φ N [] δ S P ↔ P (.nx δ) S := ⟨fun ⟨h⟩ => by rw [ss_nil] at h; exact run_ok.mp h, runB_nil⟩
theorem runB_cons (h : Run (denS Φ N st δ S) (Post Φ N sl P)) : RunB Φ N (st :: sl) δ S P := by
  refine ⟨?_⟩
  rw [ss_cons]
  refine run_go (h.mono fun fl s hp => ?_)
  cases fl with
  | nx δ => exact hp.h
  | bk δ => exact .ok hp
  | rt v => exact .ok hp
theorem run_ss (h : RunB Φ N sl δ S P) : Run (denSs Φ N sl δ S) P := h.h
theorem run_nxt {x : Out Fl} {k : En → M Fl} (h : Run x fun fl s => match fl with
    | .nx δ => Run (k δ s) P
    | .bk δ => P (.bk δ) s
    | .rt v => P (.rt v) s) : Run (x.nxt k) P := by
  refine run_go (h.mono fun fl s hp => ?_)
  cases fl with
  | nx δ => exact hp
  | bk δ => exact .ok hp
  | rt v => exact .ok hp
/-- a body's end -/
def Ret (Q : D → Sto → Prop) : Fl → Sto → Prop
  | .nx _, s => Q .non s
  | .bk _, _ => False
  | .rt d, s => Q d s
def RetN (Q : D → Sto → Prop) : Fl → Sto → Prop
  | .nx _, _ => False
  | .bk _, _ => False
  | .rt d, s => Q d s
variable {Q : D → Sto → Prop}
@[simp] theorem ret_nx' : Ret Q (.nx δ) S ↔ Q .non S := Iff.rfl
@[simp] theorem ret_rt' : Ret Q (.rt v) S ↔ Q v S := Iff.rfl
@[simp] theorem retN_rt' : RetN Q (.rt v) S ↔ Q v S := Iff.rfl
theorem run_body {ds : List D} (h : RunB Φ N sl (ds.map some ++ List.replicate (n - ds.length) none) S (Ret Q)) : Run (runB (denSs Φ N sl) n ds S) Q := by
  rw [runB_run]
  refine run_go (Run.mono h.h fun fl s hp => ?_)
  cases fl with
  | nx δ => exact .ok hp
  | bk δ => exact hp.elim
  | rt v => exact .ok hp
theorem run_bodyN {ds : List D} (h : RunB Φ N sl (ds.map some ++ List.replicate (n - ds.length) none) S (RetN Q)) : Run (runN (denSs Φ N sl) n ds S) Q := by
  rw [runN_run]
  refine run_go (Run.mono h.h fun fl s hp => ?_)
  cases fl with
  | nx δ => exact hp.elim
  | bk δ => exact hp.elim
  | rt v => exact .ok hp
theorem run_eq {x : Out α} {a : α} (h : Run x fun d s => d = a ∧ s = S) : x = .ok a S := by
  obtain ⟨b, s, e, rfl, rfl⟩ := h.ex
  exact e
/-! loops -/
theorem run_fF (h : bindT t d δ = some δ') (k : RunB Φ N sl δ' S P) : Run (fF Φ N t sl d δ S) P := by
  rw [fF_run, h, ofO_some, go_ok]
  exact k.h
/-- with what is done so far -/
theorem run_for {g : α → D} {f : D → En → M Fl} (I : List α → En → Sto → Prop) (l : List α) (h0 : I [] δ S)
    (hs : ∀ done x todo δ s, l = done ++ x :: todo → I done δ s → Run (f (g x) δ s) fun fl s' => match fl with
      | .nx δ' => I (done ++ [x]) δ' s'
      | .bk δ' => P (.nx δ') s'
      | .rt v => P (.rt v) s') (hk : ∀ δ s, I l δ s → P (.nx δ) s) : Run (forL f (l.map g) δ S) P := by
  have : ∀ (todo done : List α) (δ : En) (S : Sto), l = done ++ todo → I done δ S → Run (forL f (todo.map g) δ S) P := by
    intro todo
    induction todo with
    | nil =>
      intro done δ S e h
      rw [List.append_nil] at e
      subst e
      exact .ok (hk δ S h)
    | cons x todo ih =>
      intro done δ S e h
      rw [List.map_cons, for_cons]
      refine run_go ((hs done x todo δ S e h).mono fun fl s hp => ?_)
      cases fl with
      | nx δ' => exact ih (done ++ [x]) δ' s (by rw [e]; simp) hp
      | bk δ' => exact .ok hp
      | rt v => exact .ok hp
  exact this l [] δ S rfl h0
/-- with a word that stays -/
theorem run_for1 {g : α → D} {f : D → En → M Fl} (I : En → Sto → Prop) (l : List α) (h0 : I δ S)
    (hs : ∀ x, x ∈ l → ∀ δ s, I δ s → Run (f (g x) δ s) fun fl s' => match fl with
      | .nx δ' => I δ' s'
      | .bk δ' => P (.nx δ') s'
      | .rt v => P (.rt v) s') (hk : ∀ δ s, I δ s → P (.nx δ) s) : Run (forL f (l.map g) δ S) P :=
  run_for (fun _ => I) l h0 (fun done x todo δ s e h => hs x (by rw [e]; simp) δ s h) hk
/-! comprehensions -/
theorem run_comp1 {g : α → D} {kf : D → M (Option D)} {P : List D → Sto → Prop} (f : α → D) (l : List α) (h : ∀ x, x ∈ l → kf (g x) S = .ok (some (f x)) S) (hk : P (l.map f) S) : Run (compL kf (l.map g) S) P := by
  rw [comp_map1 h]
  exact .ok hk
/-- .. that draws -/
theorem run_compM {g : α → D} {kf : D → M (Option D)} {P : List D → Sto → Prop} (I : List α → List D → Sto → Prop) (l : List α) (h0 : I [] [] S)
    (hs : ∀ done x todo ds s, l = done ++ x :: todo → I done ds s → Run (kf (g x) s) fun o s' => I (done ++ [x]) (ds ++ o.toList) s')
    (hk : ∀ ds s, I l ds s → P ds s) : Run (compL kf (l.map g) S) P := by
  have : ∀ (todo done : List α) (ds : List D) (S : Sto), l = done ++ todo → I done ds S → Run (compL kf (todo.map g) S) fun es s => P (ds ++ es) s := by
    intro todo
    induction todo with
    | nil =>
      intro done ds S e h
      rw [List.append_nil] at e
      subst e
      rw [List.map_nil, comp_nil]
      refine .ok ?_
      rw [List.append_nil]
      exact hk ds S h
    | cons x todo ih =>
      intro done ds S e h
      rw [List.map_cons, comp_cons]
      refine run_go ((hs done x todo ds S e h).mono fun o s hp => ?_)
      refine run_go ((ih (done ++ [x]) _ s (by rw [e]; simp) hp).mono fun es s' hp' => ?_)
      cases o with
      | none =>
        have : ds ++ (none : Option D).toList ++ es = ds ++ es := by simp
        rw [this] at hp'
        exact .ok hp'
      | some d =>
        have : ds ++ (some d).toList ++ es = ds ++ d :: es := by simp
        rw [this] at hp'
        exact .ok hp'
  exact this l [] [] S rfl h0
@[simp] theorem ite_ok2 {p : Prop} [Decidable p] {a b : α} : (if p then Out.ok a S else Out.ok b S) = Out.ok (if p then a else b) S := by split <;> rfl
/-! sizes, found by instances -/
class Sz (q : Rat) (k : outParam Nat) : Prop where
  h : sz k q
variable {a b q : Rat} {k j : Nat}
theorem Sz.to [z : Sz q j] (h : j ≤ k) : sz k q := z.h.mono h
theorem sz_sub2 (ha : sz k a) (hb : sz j b) : sz (k + j + 1) (a - b) := by
  have hb' : sz j (-b) := ⟨by rw [Rat.neg_num, Int.natAbs_neg]; exact hb.1, by rw [Rat.neg_den]; exact hb.2⟩
  have := sz_add2 ha hb'
  rwa [← Rat.sub_eq_add_neg] at this
theorem sz_mul2 (ha : sz k a) (hb : sz j b) : sz (k + j) (a * b) := by
  rw [Rat.mul_def']
  refine sz_mk (Nat.mul_ne_zero a.den_nz b.den_nz) ?_ ?_
  · rw [Int.natAbs_mul, Nat.pow_add]
    exact Nat.mul_lt_mul_of_lt_of_le ha.1 (Nat.le_of_lt hb.1) (Nat.two_pow_pos _)
  · rw [Nat.pow_add]
    exact Nat.mul_lt_mul_of_lt_of_le ha.2 (Nat.le_of_lt hb.2) (Nat.two_pow_pos _)
instance [x : Sz a k] [y : Sz b j] : Sz (a + b) (k + j + 1) := ⟨sz_add2 x.h y.h⟩
instance [x : Sz a k] [y : Sz b j] : Sz (a - b) (k + j + 1) := ⟨sz_sub2 x.h y.h⟩
instance [x : Sz a k] [y : Sz b j] : Sz (a * b) (k + j) := ⟨sz_mul2 x.h y.h⟩
instance [x : Sz a k] : Sz (a / 2) (k + 1) := ⟨sz_half x.h⟩
instance : Sz 0 1 := ⟨sz_zero (by decide)⟩
instance : Sz 1 1 := ⟨sz_one (by decide)⟩
instance [x : Sz a k] [y : Sz b j] : Sz (minQ a b) (max k j) := ⟨by
  unfold minQ
  split
  · exact y.h.mono (Nat.le_max_right _ _)
  · exact x.h.mono (Nat.le_max_left _ _)⟩
instance [x : Sz a k] [y : Sz b j] : Sz (maxQ a b) (max k j) := ⟨by
  unfold maxQ
  split
  · exact y.h.mono (Nat.le_max_right _ _)
  · exact x.h.mono (Nat.le_max_left _ _)⟩
theorem lit0 : D.tup [.int 0, .int 1] = qd 0 := rfl
theorem lit1 : D.tup [.int 1, .int 1] = qd 1 := rfl
/-- a half, never unfolded -/
def hf : Rat := 1 / 2
theorem hf_mul : hf * a = a / 2 := by unfold hf; grind
theorem lit12 : D.tup [.int 1, .int 2] = qd hf := qd_mk2 (by decide +kernel) (by decide +kernel)
instance : Sz hf 2 := ⟨by unfold sz hf; exact ⟨by decide +kernel, by decide +kernel⟩⟩
@[simp] theorem bT_row {ts : List Tg} {p : Nat × What} : bindT (.tup ts) (rowD p) δ = bindTs ts [pd p.1, p.2.d] δ := rfl
@[simp] theorem qd_ix0 : ixF (qd q) (.int 0) S = .ok (.int q.num) S := ixF_T0
@[simp] theorem qd_ix1 : ixF (qd q) (.int 1) S = .ok (.int q.den) S := ixF_T1
end
end RF
end
section
set_option linter.all false
set_option maxRecDepth 100000
set_option maxHeartbeats 4000000
set_option autoImplicit false
/-! RfCup: what the earlier laws draw with: cups, parts; their own fractions. -/
namespace RF
open PySem (Str)
/-- 2003 -/
def q_law_sip : List S := [(.setOb 0 (.cst (.int 0)) (.bin .mod (.bi .int [(.bin .add (.bin .mul (.ix (.var 0) (.cst (.int 0))) (.cst (.int 48271))) (.cst (.int 13)))]) (.cst (.int 2147483629)))), (.iff (.cmp .gt (.ix (.var 0) (.cst (.int 1))) (.cst (.int 0))) [(.obT 0 (.cst (.int 1)) 2 (.bi .divmod [(.ix (.var 0) (.cst (.int 1))), (.var 1)])), (.ret (some (.var 2)))] []), (.ret (some (.bin .mod (.bi .int [(.bin .fdiv (.ix (.var 0) (.cst (.int 0))) (.cst (.int 1019)))]) (.var 1))))]
noncomputable def h_law_sip (Φ : Fns) (ds : List D) : M D := runB (denSs Φ fuel q_law_sip) 3 ds
/-- 2004 -/
def q_law_pick : List S := [(.ret (some (.ix (.var 1) (.call 2003 [(.var 0), (.bi .len [(.var 1)])]))))]
noncomputable def h_law_pick (Φ : Fns) (ds : List D) : M D := runB (denSs Φ fuel q_law_pick) 2 ds
/-- 2005 -/
def q_law_low : List S := [(.par [2, 3] [(.bi .abs [(.var 0)]), (.var 1)]), (.whl (.cmp .gt (.var 3) (.cst (.int 0))) [(.par [2, 3] [(.var 3), (.bin .mod (.var 2) (.var 3))])]), (.ret (some (.tup [(.bin .fdiv (.var 0) (.var 2)), (.bin .fdiv (.var 1) (.var 2))])))]
noncomputable def h_law_low (Φ : Fns) (ds : List D) : M D := runB (denSs Φ fuel q_law_low) 4 ds
/-- 2006 -/
def q_law_part : List S := [(.asg (.nm 1) (.bin .add (.cst (.int 1)) (.call 2003 [(.var 0), (.cst (.int 9))]))), (.ret (some (.call 2004 [(.var 0), (.lst [(.tup [(.cst (.int 0)), (.cst (.int 1))]), (.tup [(.cst (.int 0)), (.cst (.int 1))]), (.tup [(.cst (.int 1)), (.cst (.int 1))]), (.tup [(.cst (.int 1)), (.cst (.int 1))]), (.call 2005 [(.call 2003 [(.var 0), (.bin .add (.var 1) (.cst (.int 1)))]), (.var 1)])])])))]
noncomputable def h_law_part (Φ : Fns) (ds : List D) : M D := runB (denSs Φ fuel q_law_part) 2 ds
def q_law_cup : List S := [(.asg (.nm 2) (.ite (.cmp .lt (.var 1) (.bi .len [(.var 0)])) (.ix (.var 0) (.var 1)) (.bin .add (.bin .mul (.cst (.int 5167)) (.var 1)) (.cst (.int 90173))))), (.forr (.nm 3) .seq [(.ite (.cmp .ge (.var 1) (.bi .len [(.var 0)])) (.cut (.var 0) none (some (.cst (.int 2)))) (.lst []))] [(.asg (.nm 2) (.bin .mod (.bi .int [(.bin .add (.bin .mul (.var 2) (.cst (.int 31))) (.var 3))]) (.cst (.int 1000000007))))]), (.ret (some (.lst [(.bin .mod (.bi .int [(.bin .add (.bin .add (.bin .mul (.var 2) (.cst (.int 4093))) (.bin .mul (.cst (.int 269)) (.var 1))) (.cst (.int 19)))]) (.cst (.int 2147483629))), (.ite (.or [(.cmp .lt (.var 2) (.cst (.int 0))), (.cmp .ge (.var 2) (.bin .pow (.cst (.int 10)) (.cst (.int 18))))]) (.bi .abs [(.var 2)]) (.cst (.int 0)))])))]
noncomputable def h_law_cup (Φ : Fns) (ds : List D) : M D := runN (denSs Φ fuel q_law_cup) 4 ds
/-- 2023 -/
def q_law_under : List S := [(.ret (some (.cmp .lt (.bin .mul (.ix (.var 0) (.cst (.int 0))) (.ix (.var 1) (.cst (.int 1)))) (.bin .mul (.ix (.var 1) (.cst (.int 0))) (.ix (.var 0) (.cst (.int 1)))))))]
noncomputable def h_law_under (Φ : Fns) (ds : List D) : M D := runB (denSs Φ fuel q_law_under) 2 ds
/-- 2025 -/
def q_law_by : List S := [(.ret (some (.call 2005 [(.bin .mul (.ix (.var 0) (.cst (.int 0))) (.ix (.var 1) (.cst (.int 0)))), (.bin .mul (.ix (.var 0) (.cst (.int 1))) (.ix (.var 1) (.cst (.int 1))))])))]
noncomputable def h_law_by (Φ : Fns) (ds : List D) : M D := runB (denSs Φ fuel q_law_by) 2 ds
/-- 2026 -/
def q_law_plus : List S := [(.ret (some (.call 2005 [(.bin .add (.bin .mul (.ix (.var 0) (.cst (.int 0))) (.ix (.var 1) (.cst (.int 1)))) (.bin .mul (.ix (.var 1) (.cst (.int 0))) (.ix (.var 0) (.cst (.int 1))))), (.bin .mul (.ix (.var 0) (.cst (.int 1))) (.ix (.var 1) (.cst (.int 1))))])))]
noncomputable def h_law_plus (Φ : Fns) (ds : List D) : M D := runB (denSs Φ fuel q_law_plus) 2 ds
/-- 2031 -/
def q_law_minus : List S := [(.ret (some (.call 2026 [(.var 0), (.tup [(.bin .sub (.cst (.int 0)) (.ix (.var 1) (.cst (.int 0)))), (.ix (.var 1) (.cst (.int 1)))])])))]
noncomputable def h_law_minus (Φ : Fns) (ds : List D) : M D := runB (denSs Φ fuel q_law_minus) 2 ds
section
variable {Φ : Fns} {S S' S1 : Sto} {n k j : Nat} {d : D} {i : Int} {a b q : Rat} {δ : En}
def CU : Int := 2147483629
/-- a cup stands at a place of the store -/
def CupAt (S : Sto) (n : Nat) : Prop := ∃ a b : Int, S[n]? = some (.lst [.int a, .int b]) ∧ 0 ≤ a ∧ a < CU ∧ 0 ≤ b
/-- nothing but it has changed -/
def Sips (n : Nat) (S S' : Sto) : Prop := CupAt S' n ∧ S'.length = S.length ∧ ∀ m, m ≠ n → S'[m]? = S[m]?
theorem Sips.trans (h : Sips n S S1) (g : Sips n S1 S') : Sips n S S' := ⟨g.1, g.2.1.trans h.2.1, fun m hm => (g.2.2 m hm).trans (h.2.2 m hm)⟩
theorem Sips.refl (h : CupAt S n) : Sips n S S := ⟨h, rfl, fun _ _ => rfl⟩
def SipOk (f : List D → M D) : Prop := ∀ (S : Sto) (n k : Nat), CupAt S n → 0 < k → k < 1073741824 → Run (f [.obj n, .int k] S) fun d S' => ∃ i : Nat, d = .int i ∧ i < k ∧ Sips n S S'
theorem sip_ok : SipOk (h_law_sip Φ) := by
  intro S n k ⟨a, b, hS, ha, ha2, hb⟩ hk hk2
  have hn : n < S.length := (List.getElem?_eq_some_iff.mp hS).1
  have x0 : ixF (.obj n) (.int 0) S = .ok (.int a) S := ixF_obj hS rfl
  have hm1 : mulOk a 48271 = true := mul_small (by unfold CU at ha2; omega) (by decide)
  generalize ec : (a * 48271 + 13) % 2147483629 = c
  have hc0 : 0 ≤ c := by rw [← ec]; exact Int.emod_nonneg _ (by decide)
  have hc1 : c < CU := by rw [← ec]; exact Int.emod_lt_of_pos _ (by decide)
  have hset := setOb_run (S := S) (n := n) (i := 0) (l := [.int a, .int b]) (d := .int c) (δ := [some (.obj n), some (.int k), none]) (m := 0) hS rfl
  generalize hS1 : S.set n (.lst ([D.int a, .int b].set 0 (.int c))) = S1 at hset
  have h1 : S1[n]? = some (.lst [.int c, .int b]) := by rw [← hS1]; simp [hn]
  have hmv : ∀ m, m ≠ n → S1[m]? = S[m]? := fun m hm => by rw [← hS1]; exact List.getElem?_set_ne (Ne.symm hm)
  have hl1 : S1.length = S.length := by rw [← hS1]; simp
  have y0 : ixF (.obj n) (.int 0) S1 = .ok (.int c) S1 := ixF_obj h1 rfl
  have y1 : ixF (.obj n) (.int 1) S1 = .ok (.int b) S1 := ixF_obj h1 rfl
  unfold h_law_sip q_law_sip
  refine run_body (runB_cons ?_)
  simp [x0, hm1, ec, hset]
  refine runB_cons ?_
  by_cases hb0 : 0 < b
  · have hk3 : (0 : Int) < k ∧ (k : Int) < 1073741824 := by omega
    have hset2 := setOb_run (S := S1) (n := n) (i := 1) (l := [.int c, .int b]) (d := .int (b / k)) (δ := [some (.obj n), some (.int k), none]) (m := 1) h1 rfl
    have hT := obTX_run (Φ := Φ) (i := 0) (j := 2) (k := .cst (.int 1)) (a := .int (b / k)) (b := .int (b % k)) (S := S1) (δ'' := [some (.obj n), some (.int k), some (.int (b % k))]) (by simp) rfl hset2 (by simp)
    have e1 : (((b % k).toNat : Nat) : Int) = b % k := by
      have := Int.emod_nonneg b (show (k : Int) ≠ 0 by omega)
      omega
    have p1 := Int.emod_lt_of_pos b (show (0 : Int) < k by omega)
    have p2 := Int.emod_nonneg b (show (k : Int) ≠ 0 by omega)
    simp [y1, hb0, s_obT, hk3, hk, hT]
    refine ⟨(b % k).toNat, e1.symm, by omega, ⟨c, b / k, ?_, hc0, hc1, Int.ediv_nonneg hb (by omega)⟩, by simp [hl1], fun m hm => ?_⟩
    · simp [hl1, hn]
    · rw [List.getElem?_set_ne (Ne.symm hm)]
      exact hmv m hm
  · have hd : divOk 1019 = true := by decide +kernel
    have hk3 : (0 : Int) < k := by omega
    simp [y1, hb0]
    refine runB_cons ?_
    have p1 := Int.emod_lt_of_pos (c / 1019) (show (0 : Int) < k by omega)
    have p2 := Int.emod_nonneg (c / 1019) (show (k : Int) ≠ 0 by omega)
    simp [y0, hd, hk]
    exact ⟨(c / 1019 % k).toNat, by omega, by omega, ⟨c, b, h1, hc0, hc1, hb⟩, hl1, hmv⟩
def PickOk (f : List D → M D) : Prop := ∀ (S : Sto) (n : Nat) (v : D) (l : List D), v = .lst l ∨ v = .tup l → CupAt S n → l ≠ [] → l.length < 1073741824 → Run (f [.obj n, v] S) fun d S' => d ∈ l ∧ Sips n S S'
theorem atI_lt {α : Type} (l : List α) (i : Nat) (h : i < l.length) : atI l (i : Int) = some l[i] := by
  have := atI_map id l i (x := l[i]) (by simp [h])
  rwa [List.map_id] at this
theorem pick_ok (h : SipOk (Φ.fn 2003)) : PickOk (h_law_pick Φ) := by
  intro S n v l hv hS h0 hl
  have hlen : biD .len [v] S = .ok (.int l.length) S := by rcases hv with e | e <;> subst e <;> rfl
  have hpos := List.length_pos_iff.mpr h0
  unfold h_law_pick q_law_pick
  refine run_body (runB_cons ?_)
  simp [hlen]
  repeat refine run_go ?_
  refine (h S n l.length hS hpos hl).mono ?_
  rintro _ S' ⟨i, rfl, hi, hm⟩
  have : ixF v (.int i) S' = .ok l[i] S' := ixF_of (by rcases hv with e | e <;> subst e <;> exact atI_lt l i hi)
  simp [this]
  exact hm
/-! ### fractions -/
theorem low_loop {A B : Option D} : ∀ (n : Nat) (a b : Nat) (S : Sto), b < n →
    whlL (cF Φ (.cmp .gt (.var 3) (.cst (.int 0)))) (bF Φ fuel [(.par [2, 3] [(.var 3), (.bin .mod (.var 2) (.var 3))])]) n [A, B, some (.int a), some (.int b)] S
      = .ok (.nx [A, B, some (.int (Nat.gcd a b)), some (.int 0)]) S
  | 0, _, _, _, h => absurd h (Nat.not_lt_zero _)
  | n + 1, a, 0, S, _ => by simp [whl_step, cF_run]
  | n + 1, a, b + 1, S, h => by
    have ih := low_loop (A := A) (B := B) n (b + 1) (a % (b + 1)) S (Nat.lt_of_lt_of_le (Nat.mod_lt _ (Nat.succ_pos b)) (Nat.le_of_lt_succ h))
    have hp : (0 : Int) < (b : Int) + 1 := by omega
    have e : ((a : Int) % ((b : Int) + 1)) = ((a % (b + 1) : Nat) : Int) := by simp
    have g : Nat.gcd (b + 1) (a % (b + 1)) = Nat.gcd a (b + 1) := by
      rw [Nat.gcd_comm a (b + 1), Nat.gcd_rec (b + 1) a, Nat.gcd_comm]
    rw [g] at ih
    simp [whl_step, cF_run, bF_run, hp]
    simpa using ih
theorem low_ok : LowestOk (h_law_low Φ) := by
  intro t b S hb hb2
  have hg : 0 < Nat.gcd t.natAbs b := Nat.gcd_pos_of_pos_right _ hb
  have hd : divOk (Nat.gcd t.natAbs b : Nat) = true := divOk_of (by exact_mod_cast hg) (Nat.lt_of_le_of_lt (Nat.gcd_le_right _ hb) hb2)
  have hb0 : b ≠ 0 := by omega
  have e1 : (mkRat t b).num = t / (Nat.gcd t.natAbs b : Nat) := by rw [Rat.num_mkRat, if_neg hb0, Nat.gcd_comm]
  have e2 : (mkRat t b).den = b / Nat.gcd t.natAbs b := by rw [Rat.den_mkRat, if_neg hb0, Nat.gcd_comm]
  have e3 : (if t < 0 then -t else t) = (t.natAbs : Int) := by split <;> omega
  have := low_loop (Φ := Φ) (A := some (.int t)) (B := some (.int b)) fuel t.natAbs b S (fuel_gt hb2)
  unfold h_law_low q_law_low qd
  rw [e1, e2]
  simp [runB_run, e3, this, hd]
theorem plus_ok (h : LowestOk (Φ.fn 2005)) : AddOk (· + ·) (h_law_plus Φ) := by
  intro k a b S hk ha hb
  have h1 := ha.mul1 hb (by omega)
  have h2 := hb.mul1 ha (by omega)
  have h3 := ha.mul2 hb (by omega)
  have h4 := h (a.num * b.den + b.num * a.den) (a.den * b.den) S (Nat.mul_pos a.den_pos b.den_pos) (ha.den hb hk)
  rw [← den_mul] at h4
  dsimp only
  rw [Rat.add_def', ← h4]
  unfold h_law_plus q_law_plus qd
  simp [runB_run, h1, h2, h3]
  cases Φ.fn 2005 [.int (a.num * b.den + b.num * a.den), .int (a.den * b.den)] S <;> rfl
theorem sz_neg (h : sz k a) : sz k (-a) := ⟨by rw [Rat.neg_num, Int.natAbs_neg]; exact h.1, by rw [Rat.neg_den]; exact h.2⟩
theorem minus_ok (h : AddOk (· + ·) (Φ.fn 2026)) : AddOk (· - ·) (h_law_minus Φ) := by
  intro k a b S hk ha hb
  have h4 := h k a (-b) S hk ha (sz_neg hb)
  have e : qd (-b) = .tup [.int (-b.num), .int b.den] := by unfold qd; rw [Rat.neg_num, Rat.neg_den]
  rw [e] at h4
  dsimp only at h4 ⊢
  rw [Rat.sub_eq_add_neg, ← h4]
  unfold h_law_minus q_law_minus
  simp [runB_run]
  cases Φ.fn 2026 [qd a, .tup [.int (-b.num), .int b.den]] S <;> rfl
theorem by_ok (h : LowestOk (Φ.fn 2005)) : AddOk (· * ·) (h_law_by Φ) := by
  intro k a b S hk ha hb
  have h1 := ha.mul3 hb (by omega)
  have h3 := ha.mul2 hb (by omega)
  have h4 := h (a.num * b.num) (a.den * b.den) S (Nat.mul_pos a.den_pos b.den_pos) (ha.den hb hk)
  rw [← den_mul] at h4
  dsimp only
  rw [Rat.mul_def', ← h4]
  unfold h_law_by q_law_by qd
  simp [runB_run, h1, h3]
  cases Φ.fn 2005 [.int (a.num * b.num), .int (a.den * b.den)] S <;> rfl
theorem under_ok : BelowOk (h_law_under Φ) := by
  intro k a b S hk ha hb
  have h1 := ha.mul1 hb hk
  have h2 := hb.mul1 ha hk
  have e : (a < b) ↔ a.num * b.den < b.num * a.den := Rat.lt_iff _ _
  unfold h_law_under q_law_under qd
  simp [runB_run, h1, h2, e]
def DrawsPart2 (f : List D → M D) : Prop := ∀ (S : Sto) (n : Nat), CupAt S n → Run (f [.obj n] S) fun d S' => ∃ q, isPart q ∧ q.den ≤ 9 ∧ d = qd q ∧ Sips n S S'
theorem den_le {t : Int} {b : Nat} (h : 0 < b) : (mkRat t b).den ≤ b := by
  rw [Rat.den_mkRat, if_neg (by omega)]
  exact Nat.div_le_self _ _
theorem cpart_ok (hD : SipOk (Φ.fn 2003)) (hP : PickOk (Φ.fn 2004)) (hL : LowestOk (Φ.fn 2005)) : DrawsPart2 (h_law_part Φ) := by
  intro S n hS
  unfold h_law_part q_law_part
  refine run_body (runB_cons ?_)
  simp
  repeat refine run_go ?_
  refine (hD S n 9 hS (by decide) (by decide)).mono ?_
  rintro _ S1 ⟨i, rfl, hi, m1⟩
  simp
  refine runB_cons ?_
  simp
  repeat refine run_go ?_
  have e1 : ((1 : Int) + i + 1) = ((i + 2 : Nat) : Int) := by omega
  rw [e1]
  refine (hD S1 n (i + 2) m1.1 (by omega) (by omega)).mono ?_
  rintro _ S2 ⟨j, rfl, hj, m2⟩
  have e2 : ((1 : Int) + i) = (i : Int) + 1 := by omega
  have e3 := hL j (i + 1) S2 (by omega) (Nat.lt_of_lt_of_le (show i + 1 < 2 ^ 10 by omega) (Nat.pow_le_pow_right (by decide) (by decide)))
  rw [show ((i + 1 : Nat) : Int) = (i : Int) + 1 by omega] at e3
  rw [e2]
  simp [e3]
  repeat refine run_go ?_
  refine (hP S2 n _ [.tup [.int 0, .int 1], .tup [.int 0, .int 1], .tup [.int 1, .int 1], .tup [.int 1, .int 1], qd (mkRat j (i + 1))] (.inl rfl) m2.1 (by simp) (by simp)).mono ?_
  rintro d S3 ⟨hd, m3⟩
  have hm := (m1.trans m2).trans m3
  have p0 : isPart 0 := ⟨by decide +kernel, by decide +kernel⟩
  have p1 : isPart 1 := ⟨by decide +kernel, by decide +kernel⟩
  simp only [List.mem_cons, List.not_mem_nil, or_false] at hd
  rcases hd with h | h | h | h | h
  · exact ⟨0, p0, by decide, h, hm⟩
  · exact ⟨0, p0, by decide, h, hm⟩
  · exact ⟨1, p1, by decide, h, hm⟩
  · exact ⟨1, p1, by decide, h, hm⟩
  · exact ⟨_, part_mk (by omega) (by omega) (by unfold MB; omega), Nat.le_trans (den_le (by omega)) (by omega), h, hm⟩
end
end RF
end
section
set_option linter.all false
set_option maxRecDepth 100000
set_option maxHeartbeats 4000000
set_option autoImplicit false
/-! RfCup2: a new cup; the least and the greatest number where arrows lead; needs as told. -/
namespace RF
open PySem (Str)
/-- 2272 -/
def q_law_web2 : List S := [(.asg (.nm 2) (.call 2007 [(.var 0), (.var 1)])), (.ret (some (.tup [(.newV 0 500 [(.var 2)]), (.var 2)])))]
noncomputable def h_law_web2 (Φ : Fns) (ds : List D) : M D := runB (denSs Φ fuel q_law_web2) 3 ds
section
variable {Φ : Fns} {S S' S1 : Sto} {n k j c : Nat} {d : D} {i : Int} {a b q : Rat} {δ : En} {r : Rows} {f : Nat → Rat} {l ks : List Nat} {w : Str}
theorem take2 (ns : List Int) : cutL (ns.map D.int) none (some 2) = (ns.take 2).map D.int := by
  unfold cutL cutIx
  simp only [List.drop_zero, Nat.sub_zero, List.length_map, show ¬ ((2 : Int) < 0) by decide, if_false, List.map_take]
  rw [show (2 : Int).toNat = 2 from rfl]
  by_cases h : 2 ≤ ns.length
  · rw [Nat.min_eq_left h]
  · rw [Nat.min_eq_right (by omega)]
    rw [List.take_of_length_le (by simp), List.take_of_length_le (by simp; omega)]
def CupQ (S : Sto) (d : D) (S' : Sto) : Prop := S' = S ∧ ∃ a b : Int, 0 ≤ a ∧ a < CU ∧ 0 ≤ b ∧ d = .lst [.int a, .int b]
def CupBits (f : List D → M D) : Prop := ∀ (ns : List Int) (t : Nat) (S : Sto), ns.length ≤ 63 → (∀ z ∈ ns, z.natAbs.log2 ≤ 1048576) → t ≤ 100 → Run (f [.frz (ns.map D.int), .int t] S) (CupQ S)
/-- from its cell on -/
theorem cup_end {c : Int} {t : Nat} {ns : List Int} {o3 : Option D} (hc : c.natAbs.log2 ≤ 1048576) (ht : t ≤ 100) :
    RunB Φ fuel [(.ret (some (.lst [(.bin .mod (.bi .int [(.bin .add (.bin .add (.bin .mul (.var 2) (.cst (.int 4093))) (.bin .mul (.cst (.int 269)) (.var 1))) (.cst (.int 19)))]) (.cst (.int 2147483629))), (.ite (.or [(.cmp .lt (.var 2) (.cst (.int 0))), (.cmp .ge (.var 2) (.bin .pow (.cst (.int 10)) (.cst (.int 18))))]) (.bi .abs [(.var 2)]) (.cst (.int 0)))])))] [some (.frz (ns.map D.int)), some (.int t), some (.int c), o3] S (RetN (CupQ S)) := by
  have h1 : mulOk c 4093 = true := by
    unfold mulOk
    have : (4093 : Int).natAbs.log2 = 11 := by decide +kernel
    rw [this]
    simp only [decide_eq_true_eq]
    omega
  have h2 : mulOk 269 (t : Int) = true := mul_small (by decide) (by
    have : (2 : Nat) ^ 100 > 1000 := by decide
    omega)
  have p1 := Int.emod_nonneg (c * 4093 + 269 * t + 19) (show (2147483629 : Int) ≠ 0 by decide)
  have p2 := Int.emod_lt_of_pos (c * 4093 + 269 * t + 19) (show (0 : Int) < 2147483629 by decide)
  refine runB_cons ?_
  by_cases h5 : c < 0
  · simp [h1, h2, h5, -r_ite, -b_pow]
    simp [r_ite, h5]
    exact ⟨rfl, _, _, p1, p2, by omega, rfl⟩
  · by_cases h6 : (1000000000000000000 : Int) ≤ c
    · simp [h1, h2, h5, -r_ite, -b_pow]
      simp [r_ite, h5, p18, h6, -b_pow]
      exact ⟨rfl, _, _, p1, p2, by omega, rfl⟩
    · simp [h1, h2, h5, -r_ite, -b_pow]
      simp [r_ite, h5, p18, h6, -b_pow]
      exact ⟨rfl, _, _, p1, p2, by omega, rfl⟩
theorem log_small {c : Int} (h : c.natAbs < 2 ^ 40) : c.natAbs.log2 ≤ 1048576 := by
  have := log_lt h (by decide)
  omega
theorem cup_ok : CupBits (h_law_cup Φ) := by
  intro ns t S hn hb ht
  unfold h_law_cup q_law_cup
  refine run_bodyN (runB_cons ?_)
  by_cases h : t < ns.length
  · have e : ixF (.frz (ns.map D.int)) (.int t) S = .ok (.int ns[t]) S := ixF_of (atI_map D.int ns t (x := ns[t]) (by simp [h]))
    have h' : (t : Int) < ns.length := by omega
    simp [h, h', e]
    refine runB_cons ?_
    have h2 : ¬ (ns.length : Int) ≤ t := by omega
    have h3 : ¬ ns.length ≤ t := by omega
    simp [h2, h3, itemsOf]
    exact cup_end (hb _ (List.getElem_mem h)) ht
  · have h' : ¬ (t : Int) < ns.length := by omega
    have hm : mulOk 5167 (t : Int) = true := mul_small (by decide) (by
      have : (2 : Nat) ^ 100 > 1000 := by decide
      omega)
    simp [h, h', hm]
    refine runB_cons ?_
    have h2 : (ns.length : Int) ≤ t := by omega
    have h3 : ns.length ≤ t := by omega
    have e1 : denXs Φ [(.ite (.cmp .ge (.var 1) (.bi .len [(.var 0)])) (.cut (.var 0) none (some (.cst (.int 2)))) (.lst []))] [some (.frz (ns.map D.int)), some (.int t), some (.int (5167 * t + 90173)), none] S = .ok [.lst ((ns.take 2).map D.int)] S := by
      have := take2 ns
      simp [h2, h3, cutD, this]
    have i1 : itemsOf .seq [.lst ((ns.take 2).map D.int)] = some ((ns.take 2).map D.int) := rfl
    rw [s_for, e1, go_ok, i1, ofO_some, go_ok]
    refine run_for1 (fun δ s => S = s ∧ ∃ (c : Int) (o3 : Option D), c.natAbs < 2 ^ 40 ∧ δ = [some (.frz (ns.map D.int)), some (.int t), some (.int c), o3]) _ ⟨rfl, _, _, ?_, rfl⟩ ?_ ?_
    · have : (2 : Nat) ^ 40 > 10000000 := by decide
      omega
    · rintro x _ _ _ ⟨rfl, c, o3, hc, rfl⟩
      have hm2 : mulOk c 31 = true := mul_small (Nat.lt_of_lt_of_le hc (by decide)) (by decide)
      refine run_fF rfl (runB_cons ?_)
      simp [hm2]
      have p1 := Int.emod_nonneg (c * 31 + x) (show (1000000007 : Int) ≠ 0 by decide)
      have p2 := Int.emod_lt_of_pos (c * 31 + x) (show (0 : Int) < 1000000007 by decide)
      have : (2 : Nat) ^ 40 > 1000000007 := by decide
      omega
    · rintro _ _ ⟨rfl, c, o3, hc, rfl⟩
      exact cup_end (log_small hc) ht
/-! ### the least and the greatest number where arrows lead -/
/-! ### needs as told; a web with its rows -/
end
end RF
end
section
set_option linter.all false
set_option maxRecDepth 100000
set_option maxHeartbeats 4000000
set_option autoImplicit false
/-! RfCup3: the drawn rows of the earlier laws (printed by tm.py from RfCup3.tmpl). -/
namespace RF
open PySem (Str)
def cr_b1 : List RF.S := [(.asg (.nm 12) (.srt (.comp (.call 2004 [(.var 0), (.var 5)]) (.nm 11) .range1 [(.bin .add (.cst (.int 1)) (.call 2003 [(.var 0), (.cst (.int 3))]))] [] [11]))), (.app 7 (.tup [(.var 8), (.ite (.cmp .inn (.var 8) (.var 6)) (.call 2006 [(.var 0)]) (.bi .tuple [(.var 12)]))]))]
def cr_b2 : List RF.S := [(.iff (.and [(.cmp .nin (.var 8) (.var 9)), (.cmp .ne (.comp (.var 13) (.nm 13) .seq [(.var 12)] [(.cmp .inn (.var 13) (.var 9))] [13]) (.lst []))]) [(.app 9 (.var 8))] [])]
def cr_b3 : List RF.S := [(.forr (.tup [(.nm 8), (.nm 12)]) .seq [(.var 7)] cr_b2)]
def cr_b4 : List RF.S := [(.asg (.tup [(.nm 8), (.nm 12)]) (.ix (.var 7) (.var 11))), (.iff (.cmp .nin (.var 8) (.var 9)) [(.setIx 7 (.var 11) (.tup [(.var 8), (.bi .tuple [(.bi .sorted [(.bin .add (.var 12) (.tup [(.ix (.var 6) (.cst (.int 0)))]))])])]))] [])]
def cr_1 : RF.S := (.asg (.nm 2) (.bin .add (.cst (.int 2)) (.call 2003 [(.var 0), (.bin .sub (.var 1) (.cst (.int 1)))])))
def cr_2 : RF.S := (.asg (.tup [(.nm 3), (.nm 4)]) (.tup [(.cst (.str "abcdefghijklmnopqrstuvwxyz")), (.call 2003 [(.var 0), (.cst (.int 15))])]))
def cr_3 : RF.S := (.asg (.nm 5) (.comp (.ix (.var 3) (.bin .add (.var 4) (.var 11))) (.nm 11) .range1 [(.var 2)] [] [11]))
def cr_4 : RF.S := (.asg (.nm 6) (.comp (.var 8) (.nm 8) .seq [(.var 5)] [(.cmp .eq (.call 2003 [(.var 0), (.cst (.int 3))]) (.cst (.int 0)))] [8]))
def cr_5 : RF.S := (.asg (.nm 6) (.ite (.cmp .ne (.var 6) (.lst [])) (.var 6) (.lst [(.ix (.var 5) (.neg (.cst (.int 1))))])))
def cr_6 : RF.S := (.asg (.nm 7) (.lst []))
def cr_7 : RF.S := (.forr (.nm 8) .seq [(.var 5)] cr_b1)
def cr_8 : RF.S := (.asg (.nm 9) (.bi .list [(.var 6)]))
def cr_9 : RF.S := (.forr (.nm 10) .range1 [(.var 2)] cr_b3)
def cr_10 : RF.S := (.forr (.nm 11) .range1 [(.var 2)] cr_b4)
def cr_11 : RF.S := (.ret (some (.bi .tuple [(.var 7)])))
/-- 2007: 0 cup, 1 most, 2 many, 3 letters, 4 start, 5 places_here, 6 ends, 7 found, 8 place, 9 home, 10 turn, 11 k, 12 what, 13 to -/
def q_law_rows : List RF.S := [cr_1, cr_2, cr_3, cr_4, cr_5, cr_6, cr_7, cr_8, cr_9, cr_10, cr_11]
noncomputable def h_law_rows (Φ : Fns) (ds : List D) : M D := runB (denSs Φ fuel q_law_rows) 14 ds
section
variable {Φ : Fns} {S S' S1 S2 : Sto} {n m k j c : Nat} {d : D} {i : Int} {a b q : Rat} {δ : En} {r : Rows} {f : Nat → Rat} {l ks home : List Nat} {w : Str}
/-- what a drawn row is; l: all places, es: the ends -/
def RowC (l es : List Nat) (p : Nat × What) : Prop := (p.1 ∈ es ∧ ∃ q, p.2 = .num q ∧ isPart q ∧ q.den ≤ 9) ∨ (p.1 ∉ es ∧ ∃ a, p.2 = .arr a ∧ a ≠ [] ∧ a.length ≤ 3 ∧ a.Pairwise (· < ·) ∧ ∀ t ∈ a, t ∈ l)
theorem RowC.nums {l es : List Nat} {p : Nat × What} (h : RowC l es p) : isNum p.2 = decide (p.1 ∈ es) := by
  rcases h with ⟨h1, q, h2, _⟩ | ⟨h1, a, h2, _⟩ <;> rw [h2] <;> simp [isNum, h1]
theorem homes0_of {l es : List Nat} (h : ∀ p ∈ r, RowC l es p) (he : es = (places r).filter fun c => decide (c ∈ es)) : homes0 r = es := by
  have : homes0 r = (places r).filter fun c => decide (c ∈ es) := by
    unfold homes0 places
    rw [List.filter_map]
    congr 1
    refine List.filter_congr fun p hp => ?_
    exact (h p hp).nums
  rw [this, ← he]
/-- one place of the home loop -/
theorem crow_run {p : Nat × What} {l es : List Nat} (hp : RowC l es p) (hes : ∀ e ∈ es, e ∈ home) (hs : small1 l) (hl : home.length ≤ 1000) {x0 x1 x2 x3 x4 x5 x6 x7 x10 x11 o8 o12 o13 : Option D} :
    Run (fF Φ fuel (.tup [.nm 8, .nm 12]) cr_b2 (rowD p) [x0, x1, x2, x3, x4, x5, x6, x7, o8, some (.lst (home.map pd)), x10, x11, o12, o13] S) fun fl s => S = s ∧ ∃ o8 o12 o13, fl = .nx [x0, x1, x2, x3, x4, x5, x6, x7, o8, some (.lst ((homeStep home p).map pd)), x10, x11, o12, o13] := by
  obtain ⟨c, w⟩ := p
  have e1 : cmpD .nin (pd c) (.lst (home.map pd)) S = .ok (.bl (!decide (c ∈ home))) S := c_ninL
  have hline : home.length < line := by simp [line]; omega
  refine run_fF rfl ?_
  unfold cr_b2
  refine runB_cons ?_
  rcases hp with ⟨h1, q, rfl, _⟩ | ⟨h1, a, rfl, h0, h3, hpw, hal⟩
  · have := hes c h1
    simp [e1, this, homeStep]
  · by_cases hc : c ∈ home
    · simp [e1, hc, homeStep]
    · have i1 : itemsOf .seq [(What.arr a).d] = some (a.map pd) := rfl
      have l1 : a.length < line := by simp [line]; omega
      have c1 := comp_map (S := S) (g := pd) (h := kF Φ (.nm 13) [(.cmp .inn (.var 13) (.var 9))] (.var 13) [13] [x0, x1, x2, x3, x4, x5, x6, x7, some (pd c), some (.lst (home.map pd)), x10, x11, some (What.arr a).d, o13]) (f := fun t => if decide (t ∈ home) = true then some (pd t) else none) (items := a) (fun t _ => by
        have e2 : cmpD .inn (pd t) (.lst (home.map pd)) S = .ok (.bl (decide (t ∈ home))) S := c_inL
        by_cases ht : t ∈ home <;> simp [kF_run, wipe, e2, ht])
      rw [filter_comp (fun t => decide (t ∈ home)) pd] at c1
      have e3 := c_neNil (S := S) (l := a.filter fun t => decide (t ∈ home)) (fun t ht => hs t (hal t (List.mem_filter.mp ht).1))
      rw [filter_empty] at e3
      cases z : a.any fun t => decide (t ∈ home) <;> rw [z] at e3
      · simp [e1, hc, i1, c1, l1, e3, homeStep, z]
      · simp [e1, hc, i1, c1, l1, e3, homeStep, z, hline]
/-- the home loop -/
theorem chome_run {l es : List Nat} (hr : ∀ p ∈ r, RowC l es p) (he : homes0 r = es) (hs : small1 l) (hl : r.length ≤ 30) (hm : m = r.length) {P : Fl → Sto → Prop} {x0 x1 x3 x4 x5 x6 x11 o8 o10 o12 o13 : Option D}
    (hk : ∀ o8 o10 o12 o13, P (.nx [x0, x1, some (.int m), x3, x4, x5, x6, some (.lst (r.map rowD)), o8, some (.lst ((homeAfter r m).map pd)), o10, x11, o12, o13]) S) :
    Run (denS Φ fuel cr_9 [x0, x1, some (.int m), x3, x4, x5, x6, some (.lst (r.map rowD)), o8, some (.lst (es.map pd)), o10, x11, o12, o13] S) P := by
  have i1 : itemsOf .range1 [.int (m : Int)] = some ((List.range' 0 m).map fun j : Nat => D.int (j : Int)) := items_rangeN (by omega)
  have i2 : itemsOf .seq [.lst (r.map rowD)] = some (r.map rowD) := rfl
  have hes : ∀ k, ∀ e ∈ es, e ∈ homeAfter r k := fun k e h => by
    rw [← he] at h
    obtain ⟨p, hp, rfl⟩ := List.mem_map.mp h
    obtain ⟨hp, hn⟩ := List.mem_filter.mp hp
    exact homeAfter_num k hp hn
  have hlen : ∀ k, k ≤ 30 → (homeAfter r k).length ≤ 930 := fun k hk => by
    have := homeAfter_len (r := r) k
    have h2 : (k + 1) * r.length ≤ 31 * 30 := Nat.mul_le_mul (by omega) hl
    omega
  unfold cr_9
  simp [i1, -List.map_append]
  refine run_for (fun done δ s => S = s ∧ ∃ o8 o10 o12 o13, δ = [x0, x1, some (.int m), x3, x4, x5, x6, some (.lst (r.map rowD)), o8, some (.lst ((homeAfter r done.length).map pd)), o10, x11, o12, o13]) _ ⟨rfl, _, _, _, _, by rw [← he]; rfl⟩ ?_ ?_
  · rintro done x todo _ _ e ⟨rfl, o8, o10, o12, o13, rfl⟩
    refine run_fF rfl ?_
    unfold cr_b3
    refine runB_cons ?_
    simp [i2, -List.map_append]
    have hd : done.length ≤ m := by
      have := congrArg List.length e
      simp at this
      omega
    refine run_for (fun dn δ s => S = s ∧ ∃ o8 o12 o13, δ = [x0, x1, some (.int m), x3, x4, x5, x6, some (.lst (r.map rowD)), o8, some (.lst ((dn.foldl homeStep (homeAfter r done.length)).map pd)), some (.int x), x11, o12, o13]) _ ⟨rfl, _, _, _, rfl⟩ ?_ ?_
    · rintro dn p todo' _ _ e' ⟨rfl, o8, o12, o13, rfl⟩
      have hp : p ∈ r := by rw [e']; simp
      have h1 : ∀ (dn : Rows) (home : List Nat), (∀ z ∈ home, z ∈ dn.foldl homeStep home) := fun dn home z hz => homePass_sub (r := dn) hz
      have h2 : (dn.foldl homeStep (homeAfter r done.length)).length ≤ 1000 := by
        have := homePass_len dn (homeAfter r done.length)
        have h3 := hlen done.length (by omega)
        have h4 : dn.length ≤ r.length := by rw [e']; simp
        unfold homePass at this
        omega
      refine (crow_run (hr p hp) (fun e h => h1 _ _ _ (hes _ e h)) hs h2).mono ?_
      rintro fl s ⟨rfl, o8, o12, o13, rfl⟩
      refine ⟨rfl, o8, o12, o13, ?_⟩
      rw [List.foldl_append]
      rfl
    · rintro _ _ ⟨rfl, o8, o12, o13, rfl⟩
      exact runB_nil ⟨rfl, o8, some (.int x), o12, o13, rfl⟩
  · rintro _ _ ⟨rfl, o8, o10, o12, o13, rfl⟩
    have := hk o8 o10 o12 o13
    simpa using this
end
end RF
end
section
set_option linter.all false
set_option maxRecDepth 100000
set_option maxHeartbeats 4000000
set_option autoImplicit false
/-! RfCup4: the drawn rows of the earlier laws, to their end; a web with its rows. -/
namespace RF
open PySem (Str)
section
variable {Φ : Fns} {S S' S1 S2 : Sto} {n m k j c : Nat} {d : D} {i : Int} {a b q : Rat} {δ : En} {r : Rows} {f : Nat → Rat} {l ks home es : List Nat} {w : Str}
/-! ### one drawn row -/
theorem mem_last {l : List Nat} (h : l ≠ []) : ixF (.lst (l.map pd)) (.int (-1)) S = .ok (pd (l.getLast h)) S := ixF_of (by
  show atI (l.map pd) (-1) = _
  unfold atI ixOf
  have hp := List.length_pos_iff.mpr h
  rw [List.length_map, if_neg (by decide), if_pos (by omega)]
  have e : ((-1 : Int) + (l.length : Int)).toNat = l.length - 1 := by omega
  rw [e]
  simp only [Option.bind_some, List.getElem?_map]
  rw [← List.getLast?_eq_getElem?, List.getLast?_eq_some_getLast h]
  rfl)
/-- drawn places, each once, ascending -/
theorem cwhat_run (hD : SipOk (Φ.fn 2003)) (hP : PickOk (Φ.fn 2004)) (hS : CupAt S n) (hl0 : l ≠ []) (hl : l.length ≤ 30) {P : D → Sto → Prop} {x1 x2 x3 x4 x6 x7 x8 x9 x10 x11 x12 x13 : Option D}
    (hk : ∀ (a : List Nat) S', a ≠ [] → a.length ≤ 3 → a.Pairwise (· < ·) → (∀ t ∈ a, t ∈ l) → Sips n S S' → P (.lst (a.map pd)) S') :
    Run (denX Φ (.srt (.comp (.call 2004 [(.var 0), (.var 5)]) (.nm 11) .range1 [(.bin .add (.cst (.int 1)) (.call 2003 [(.var 0), (.cst (.int 3))]))] [] [11])) [some (.obj n), x1, x2, x3, x4, some (.lst (l.map pd)), x6, x7, x8, x9, x10, x11, x12, x13] S) P := by
  simp
  repeat (first | with_reducible refine run_go ?_ | with_reducible refine run_bool ?_)
  refine (hD S n 3 hS (by decide) (by decide)).mono ?_
  rintro _ S1 ⟨i, rfl, hi, m1⟩
  have e1 : (1 : Int) + i = ((i + 1 : Nat) : Int) := by omega
  have i1 : itemsOf .range1 [.int ((i + 1 : Nat) : Int)] = some ((List.range' 0 (i + 1)).map fun j : Nat => D.int (j : Int)) := items_rangeN (by omega)
  rw [← e1] at i1
  simp [i1]
  repeat (first | with_reducible refine run_go ?_ | with_reducible refine run_bool ?_)
  refine run_compM (fun done ds s => ∃ a : List Nat, ds = a.map pd ∧ a.length = done.length ∧ (∀ t ∈ a, t ∈ l) ∧ Sips n S s) _ ⟨[], rfl, rfl, (fun _ h => nomatch h), m1⟩ ?_ ?_
  · rintro done x todo _ s _ ⟨a, rfl, hal, ham, m2⟩
    rw [kF_run]
    simp [wipe]
    repeat (first | with_reducible refine run_go ?_ | with_reducible refine run_bool ?_)
    refine (hP s n _ (l.map pd) (.inl rfl) m2.1 (by simpa using hl0) (by rw [List.length_map]; omega)).mono ?_
    rintro d s' ⟨hd, m3⟩
    obtain ⟨t, ht, rfl⟩ := List.mem_map.mp hd
    simp only [run_ok]
    refine ⟨a ++ [t], by simp, by simp [hal], fun z hz => ?_, m2.trans m3⟩
    rcases List.mem_append.mp hz with h | h
    · exact ham z h
    · rw [List.mem_singleton.mp h]; exact ht
  · rintro _ s ⟨a, rfl, hal, ham, m2⟩
    have hl2 : a.length = i + 1 := by rw [hal]; simp
    have hb : i + 1 < line := by simp [line]; omega
    have e2 : srtF (.lst (a.map pd)) s = .ok (.lst ((sortN a).map pd)) s := srt_pd (S := s) (l := a) (by omega)
    simp [hb, e2]
    have hne : sortN a ≠ [] := fun z => by
      have h0 : a ≠ [] := by intro y; rw [y] at hl2; simp at hl2
      obtain ⟨t, ht⟩ := List.exists_mem_of_ne_nil a h0
      have := (mem_sortN t a).mpr ht
      rw [z] at this
      exact nomatch this
    exact hk _ s hne (Nat.le_trans (sortN_len a) (by omega)) (sortN_pw a) (fun t ht => ham t ((mem_sortN t a).mp ht)) m2
/-- the drawn rows, one after another -/
theorem cfound_run (hD : SipOk (Φ.fn 2003)) (hP : PickOk (Φ.fn 2004)) (hQ : DrawsPart2 (Φ.fn 2006)) (hS : CupAt S n) (hl0 : l ≠ []) (hl : l.length ≤ 30) {P : Fl → Sto → Prop} {x1 x2 x3 x4 o8 x9 x10 x11 o12 x13 : Option D}
    (hk : ∀ (r : Rows) o8 o12 S', places r = l → (∀ p ∈ r, RowC l es p) → Sips n S S' → P (.nx [some (.obj n), x1, x2, x3, x4, some (.lst (l.map pd)), some (.lst (es.map pd)), some (.lst (r.map rowD)), o8, x9, x10, x11, o12, x13]) S') :
    Run (denS Φ fuel cr_7 [some (.obj n), x1, x2, x3, x4, some (.lst (l.map pd)), some (.lst (es.map pd)), some (.lst []), o8, x9, x10, x11, o12, x13] S) P := by
  have i1 : itemsOf .seq [.lst (l.map pd)] = some (l.map pd) := rfl
  unfold cr_7
  simp [i1]
  obtain ⟨I, hI⟩ := hide fun (done : List Nat) (δ : En) (s : Sto) => ∃ (r : Rows) (o8 o12 : Option D), places r = done ∧ (∀ p ∈ r, RowC l es p) ∧ Sips n S s ∧ δ = [some (.obj n), x1, x2, x3, x4, some (.lst (l.map pd)), some (.lst (es.map pd)), some (.lst (r.map rowD)), o8, x9, x10, x11, o12, x13]
  refine run_for I _ (by rw [hI]; exact ⟨[], _, _, rfl, (fun _ h => nomatch h), Sips.refl hS, rfl⟩) ?_ ?_
  · rintro done c todo δ s e h
    rw [hI] at h
    obtain ⟨r, o8, o12, hpl, hrow, m1, rfl⟩ := h
    refine run_fF rfl ?_
    unfold cr_b1
    refine runB_cons ?_
    rw [s_asg]
    refine run_go (cwhat_run (x6 := some (.lst (es.map pd))) hD hP m1.1 hl0 hl fun a S2 h0 h3 hpw hal m2 => ?_)
    simp
    refine runB_cons ?_
    have hlen : r.length < line := by
      have : r.length = done.length := by rw [← hpl]; unfold places; simp
      have h2 := congrArg List.length e
      simp at h2
      simp [line]
      omega
    have e2 : cmpD .inn (pd c) (.lst (es.map pd)) S2 = .ok (.bl (decide (c ∈ es))) S2 := c_inL
    by_cases hc : c ∈ es
    · simp [e2, hc]
      repeat (first | with_reducible refine run_go ?_ | with_reducible refine run_bool ?_)
      refine (hQ S2 n m2.1).mono ?_
      rintro _ S3 ⟨q, hq, hq9, rfl, m3⟩
      simp [hlen]
      rw [hI]
      refine ⟨r ++ [(c, .num q)], some (pd c), some (.lst (a.map pd)), by unfold places at hpl ⊢; simp [hpl], ?_, (m1.trans m2).trans m3, ?_⟩
      · intro p hp
        rcases List.mem_append.mp hp with h | h
        · exact hrow p h
        · rw [List.mem_singleton.mp h]
          exact .inl ⟨hc, q, rfl, hq, hq9⟩
      · rw [List.map_append]; rfl
    · simp [e2, hc, hlen]
      rw [hI]
      refine ⟨r ++ [(c, .arr a)], some (pd c), some (.lst (a.map pd)), by unfold places at hpl ⊢; simp [hpl], ?_, m1.trans m2, ?_⟩
      · intro p hp
        rcases List.mem_append.mp hp with h | h
        · exact hrow p h
        · rw [List.mem_singleton.mp h]
          exact .inr ⟨hc, a, rfl, h0, h3, hpw, hal⟩
      · rw [List.map_append]; rfl
  · rintro _ s h
    rw [hI] at h
    obtain ⟨r, o8, o12, hpl, hrow, m1, rfl⟩ := h
    exact hk r o8 o12 s hpl hrow m1
/-! ### what is lost gets an arrow -/
def fixW (home : List Nat) (e : Nat) (p : Nat × What) : Nat × What := if p.1 ∈ home then p else (p.1, .arr (sortN (arrsOf p.2 ++ [e])))
theorem set_mid {α : Type} (A : List α) (x y : α) (B : List α) : (A ++ x :: B).set A.length y = A ++ y :: B := by
  rw [List.set_append_right _ _ (Nat.le_refl _), Nat.sub_self]
  rfl
theorem cfix_run {e : Nat} (hes0 : es.head? = some e) (hr : ∀ p ∈ r, RowC l es p) (hes : ∀ e ∈ es, e ∈ home) (hen : ∀ p ∈ r, p.1 ∉ home → ∀ a, p.2 = .arr a → e ∉ a) (hl : r.length ≤ 30) (hm : m = r.length) {P : Fl → Sto → Prop} {x0 x1 x3 x4 x5 o8 x10 o11 o12 x13 : Option D}
    (hk : ∀ o8 o11 o12, P (.nx [x0, x1, some (.int m), x3, x4, x5, some (.lst (es.map pd)), some (.lst ((r.map (fixW home e)).map rowD)), o8, some (.lst (home.map pd)), x10, o11, o12, x13]) S) :
    Run (denS Φ fuel cr_10 [x0, x1, some (.int m), x3, x4, x5, some (.lst (es.map pd)), some (.lst (r.map rowD)), o8, some (.lst (home.map pd)), x10, o11, o12, x13] S) P := by
  have i1 : itemsOf .range1 [.int (m : Int)] = some ((List.range' 0 m).map fun j : Nat => D.int (j : Int)) := items_rangeN (by omega)
  unfold cr_10
  simp [i1, -List.map_append, -List.map_map]
  obtain ⟨I, hI⟩ := hide fun (done : List Nat) (δ : En) (s : Sto) => S = s ∧ ∃ o8 o11 o12, δ = [x0, x1, some (.int m), x3, x4, x5, some (.lst (es.map pd)), some (.lst (((r.take done.length).map (fixW home e) ++ r.drop done.length).map rowD)), o8, some (.lst (home.map pd)), x10, o11, o12, x13]
  refine run_for I _ (by rw [hI]; exact ⟨rfl, o8, o11, o12, rfl⟩) ?_ ?_
  · rintro done x todo δ s ee h
    rw [hI] at h
    obtain ⟨rfl, o8, o11, o12, rfl⟩ := h
    obtain ⟨hx, hxm⟩ := range_split ee
    rw [hm] at hxm
    subst hx
    generalize hk : done.length = k at hxm ⊢
    have hL : (r.take k).map (fixW home e) ++ r.drop k = (r.take k).map (fixW home e) ++ r[k] :: r.drop (k + 1) := by rw [List.drop_eq_getElem_cons hxm]
    have hAl : ((r.take k).map (fixW home e)).length = k := by simp; omega
    have hT : (r.take (k + 1)).map (fixW home e) = (r.take k).map (fixW home e) ++ [fixW home e r[k]] := by
      rw [List.take_succ_eq_append_getElem hxm, List.map_append]
      rfl
    rw [hL]
    generalize hA : (r.take k).map (fixW home e) = A at hAl hT ⊢
    generalize hB : r.drop (k + 1) = B
    have hn : (done ++ [k]).length = k + 1 := by simp [hk]
    have hBl : A.length + (B.length + 1) = r.length := by rw [hAl, ← hB]; simp; omega
    rcases hrk : r[k] with ⟨c, wt⟩
    have hL' : (r.take (done ++ [k]).length).map (fixW home e) ++ r.drop (done ++ [k]).length = A ++ fixW home e (c, wt) :: B := by rw [hn, hT, hrk, hB, List.append_assoc]; rfl
    have hrow := hr (c, wt) (by rw [← hrk]; exact List.getElem_mem hxm)
    have hen' := hen (c, wt) (by rw [← hrk]; exact List.getElem_mem hxm)
    have x1 : ixF (.lst ((A ++ (c, wt) :: B).map rowD)) (.int k) S = .ok (rowD (c, wt)) S := ixF_of (atI_map rowD _ k (by rw [← hAl]; simp))
    have e1 : cmpD .nin (pd c) (.lst (home.map pd)) S = .ok (.bl (!decide (c ∈ home))) S := c_ninL
    refine run_fF rfl ?_
    unfold cr_b4
    refine runB_cons ?_
    simp [x1, -List.map_append, -List.map_cons]
    refine runB_cons ?_
    by_cases hc : c ∈ home
    · have hf : fixW home e (c, wt) = (c, wt) := by unfold fixW; rw [if_pos hc]
      simp [e1, hc, hf, -List.map_append, -List.map_cons]
      rw [hI]
      exact ⟨rfl, some (pd c), some (.int k), some wt.d, by rw [hL', hf]⟩
    · rcases hrow with ⟨h1, _⟩ | ⟨h1, a, h2, h0, h3, hpw, hal⟩
      · exact absurd (hes c h1) hc
      · dsimp only at h2
        subst h2
        have hea := hen' hc a rfl
        have hf : fixW home e (c, .arr a) = (c, .arr (sortN (a ++ [e]))) := by unfold fixW; rw [if_neg hc]; rfl
        have x2 : ixF (.lst (es.map pd)) (.int 0) S = .ok (pd e) S := by
          cases es with
          | nil => cases hes0
          | cons z es => cases hes0; exact ixF_L0
        have b1 : binD .add (What.arr a).d (.tup [pd e]) S = .ok (.tup ((a ++ [e]).map pd)) S := by
          show binD .add (.tup (a.map pd)) (.tup [pd e]) S = _
          rw [b_addT, if_pos (by rw [List.length_map]; simp [line]; omega), List.map_append]
          rfl
        have b2 : biD .sorted [.tup ((a ++ [e]).map pd)] S = .ok (.lst ((sortN (a ++ [e])).map pd)) S := by
          refine f_sortedT (by simp; omega) ?_
          rw [List.nodup_append]
          refine ⟨hpw.imp fun h => Nat.ne_of_lt h, by simp, fun x hx y hy => ?_⟩
          rw [List.mem_singleton.mp hy]
          intro z
          exact hea (z ▸ hx)
        have b3 : biD .tuple [.lst ((sortN (a ++ [e])).map pd)] S = .ok (What.arr (sortN (a ++ [e]))).d S := rfl
        have b4 : setIxF 7 (.lst ((A ++ (c, .arr a) :: B).map rowD)) (.int k) (.tup [pd c, (What.arr (sortN (a ++ [e]))).d]) = fun δ s => .ok (.nx (δ.set 7 (some (.lst ((A ++ (c, .arr (sortN (a ++ [e]))) :: B).map rowD))))) s := by
          funext δ s
          unfold setIxF
          have h1 : ixOf ((A ++ (c, What.arr a) :: B).map rowD).length (k : Int) = some k := by
            unfold ixOf
            rw [if_pos (by omega), if_pos (by simp; omega)]
            simp
          dsimp only
          rw [h1]
          dsimp only
          have h2 : ((A ++ (c, What.arr a) :: B).map rowD).set k (.tup [pd c, (What.arr (sortN (a ++ [e]))).d]) = (A ++ (c, .arr (sortN (a ++ [e]))) :: B).map rowD := by
            rw [List.map_append, List.map_cons, List.map_append, List.map_cons, ← set_mid (A.map rowD) (rowD (c, .arr a)) (rowD (c, .arr (sortN (a ++ [e])))) (B.map rowD)]
            rw [List.length_map, hAl]
            rfl
          rw [h2]
          rfl
        simp [e1, hc, x2, b1, b2, b3, b4, hf, -List.map_append, -List.map_cons]
        rw [hI]
        exact ⟨rfl, some (pd c), some (.int k), some (What.arr a).d, by rw [hL', hf]⟩
  · rintro _ _ h
    rw [hI] at h
    obtain ⟨rfl, o8, o11, o12, rfl⟩ := h
    have := hk o8 o11 o12
    simp only [List.length_range', hm]
    rw [List.take_length, List.drop_length, List.append_nil]
    rw [hm] at this
    exact this
/-! ### the fixed rows are rows of a web -/
theorem rows_fixW {e : Nat} (hpl : places r = l) (hl0 : l ≠ []) (hlp : l.Pairwise (· < ·)) (hll : l.length ≤ 10) (hlet : ∀ c ∈ l, isLet c = true) (hr : ∀ p ∈ r, RowC l es p) (he : e ∈ es) (hesl : ∀ e ∈ es, e ∈ l) :
    RowsOk (r.map (fixW (homeAfter r r.length) e)) ∧ ∀ p ∈ r.map (fixW (homeAfter r r.length) e), ∀ q, p.2 = .num q → q.den ≤ 9 := by
  have hlen : r.length = l.length := by rw [← hpl]; unfold places; simp
  have hf1 : ∀ p : Nat × What, (fixW (homeAfter r r.length) e p).1 = p.1 := fun p => by unfold fixW; split <;> rfl
  have hpl' : (r.map (fixW (homeAfter r r.length) e)).map (·.1) = l := by
    rw [List.map_map, ← hpl]
    exact List.map_congr_left fun p _ => hf1 p
  have hnum : ∀ p ∈ r, ∀ q, p.2 = .num q → fixW (homeAfter r r.length) e p = p := fun p hp q h => by
    unfold fixW
    rw [if_pos]
    exact homeAfter_num _ hp (by rw [h]; rfl)
  obtain ⟨w0, hw0⟩ : ∃ q, (e, What.num q) ∈ r := by
    have : e ∈ places r := by rw [hpl]; exact hesl e he
    obtain ⟨p, hp, rfl⟩ := List.mem_map.mp this
    rcases hr p hp with ⟨_, q, h2, _⟩ | ⟨h1, _⟩
    · exact ⟨q, by rw [← h2]; exact hp⟩
    · exact absurd he h1
  have heP : (e, What.num w0) ∈ r.map (fixW (homeAfter r r.length) e) := List.mem_map.mpr ⟨_, hw0, hnum _ hw0 w0 rfl⟩
  have hmem : ∀ (a : List Nat) t, t ∈ sortN (a ++ [e]) ↔ t ∈ a ∨ t = e := fun a t => by rw [mem_sortN]; simp
  have hto : ∀ p ∈ r.map (fixW (homeAfter r r.length) e), ∀ a, p.2 = .arr a → a ≠ [] ∧ a.length ≤ 10 ∧ a.Pairwise (· < ·) ∧ ∀ t ∈ a, t ∈ l := by
    intro p' hp' a ha
    obtain ⟨p, hp, rfl⟩ := List.mem_map.mp hp'
    rcases hr p hp with ⟨_, q, h2, _⟩ | ⟨_, b, h2, h0, h3, hpw, hal⟩
    · rw [hnum p hp q h2, h2] at ha
      cases ha
    · unfold fixW at ha
      split at ha
      · rw [h2] at ha
        cases ha
        exact ⟨h0, by omega, hpw, hal⟩
      · dsimp only at ha
        rw [h2] at ha
        cases ha
        refine ⟨fun z => ?_, ?_, sortN_pw _, fun t ht => ?_⟩
        · have := (hmem b e).mpr (.inr rfl)
          rw [show arrsOf (What.arr b) = b from rfl] at z
          rw [z] at this
          exact nomatch this
        · have := sortN_len (b ++ [e])
          rw [List.length_append] at this
          show (sortN (b ++ [e])).length ≤ 10
          simp only [List.length_cons, List.length_nil] at this
          omega
        · rcases (hmem b t).mp ht with h | h
          · exact hal t h
          · rw [h]; exact hesl e he
  refine ⟨⟨?_, ?_, ?_, ?_, ?_, ?_⟩, ?_⟩
  · rw [List.length_map, hlen]
    exact ⟨List.length_pos_iff.mpr hl0, hll⟩
  · intro p hp
    have : p.1 ∈ (r.map (fixW (homeAfter r r.length) e)).map (·.1) := List.mem_map_of_mem hp
    rw [hpl'] at this
    exact hlet _ this
  · intro p hp
    cases h : p.2 with
    | num q =>
      obtain ⟨p', hp', rfl⟩ := List.mem_map.mp hp
      rcases hr p' hp' with ⟨_, q', h2, h3, _⟩ | ⟨_, b, h2, _⟩
      · rw [hnum p' hp' q' h2, h2] at h
        cases h
        exact h3
      · unfold fixW at h
        split at h
        · rw [h2] at h; cases h
        · cases h
    | arr a =>
      obtain ⟨h0, h1, h2, h3⟩ := hto p hp a h
      exact ⟨h0, by omega, List.all_eq_true.mpr fun t ht => hlet t (h3 t ht), pw_asc h2⟩
  · rw [hpl']
    exact pw_asc hlp
  · intro p hp a ha t ht
    rw [hpl']
    exact (hto p hp a ha).2.2.2 t ht
  · rw [lost_nil]
    intro z hz
    have hz' : z ∈ places r := by
      unfold places at hz
      rw [hpl', ← hpl] at hz
      exact hz
    -- what was home is so still
    have keep : ∀ z, Reach r z → Reach (r.map (fixW (homeAfter r r.length) e)) z := by
      intro z h
      induction h with
      | @num c q hc => exact .num (q := q) (List.mem_map.mpr ⟨_, hc, hnum _ hc q rfl⟩)
      | @arr c t a hc ht h ih =>
        have hreach : Reach r c := .arr hc ht h
        have : fixW (homeAfter r r.length) e (c, .arr a) = (c, .arr a) := by unfold fixW; rw [if_pos (home_iff.mpr hreach)]
        exact .arr (List.mem_map.mpr ⟨_, hc, this⟩) ht ih
    by_cases hh : Reach r z
    · exact keep z hh
    · obtain ⟨p, hp, rfl⟩ := List.mem_map.mp hz'
      have hn : p.1 ∉ homeAfter r r.length := fun y => hh (home_iff.mp y)
      have : fixW (homeAfter r r.length) e p = (p.1, .arr (sortN (arrsOf p.2 ++ [e]))) := by unfold fixW; rw [if_neg hn]
      exact .arr (t := e) (List.mem_map.mpr ⟨_, hp, this⟩) ((hmem _ e).mpr (.inr rfl)) (.num heP)
  · intro p hp q h
    obtain ⟨p', hp', rfl⟩ := List.mem_map.mp hp
    rcases hr p' hp' with ⟨_, q', h2, _, h4⟩ | ⟨_, b, h2, _⟩
    · rw [hnum p' hp' q' h2, h2] at h
      cases h
      exact h4
    · unfold fixW at h
      split at h
      · rw [h2] at h; cases h
      · cases h
/-! ### the whole def -/
theorem sub_filter : ∀ {es l : List Nat}, es.Sublist l → l.Nodup → es = l.filter fun c => decide (c ∈ es) := by
  intro es l h
  induction h with
  | slnil => intro _; rfl
  | @cons es l a h ih =>
    intro nd
    obtain ⟨h1, h2⟩ := List.nodup_cons.mp nd
    have : a ∉ es := fun z => h1 (h.subset z)
    rw [List.filter_cons_of_neg (by simpa using this)]
    exact ih h2
  | @cons_cons es l a h ih =>
    intro nd
    obtain ⟨h1, h2⟩ := List.nodup_cons.mp nd
    rw [List.filter_cons_of_pos (by simp)]
    congr 1
    refine (ih h2).trans (List.filter_congr fun c hc => ?_)
    have : c ≠ a := fun z => h1 (z ▸ hc)
    simp [this]
/-- drawn rows -/
def RowsQ (n most : Nat) (S : Sto) (d : D) (S' : Sto) : Prop := ∃ r, d = rowsD r ∧ RowsOk r ∧ 2 ≤ r.length ∧ r.length ≤ most ∧ (∀ p ∈ r, ∀ q, p.2 = .num q → q.den ≤ 9) ∧ Sips n S S' ∧ ∃ s m, places r = List.range' s m
def DrawsRows (F : List D → M D) : Prop := ∀ (S : Sto) (n most : Nat), CupAt S n → 2 ≤ most → most ≤ 10 → Run (F [.obj n, .int most] S) (RowsQ n most S)
theorem rows_law_ok (hD : SipOk (Φ.fn 2003)) (hP : PickOk (Φ.fn 2004)) (hQ : DrawsPart2 (Φ.fn 2006)) : DrawsRows (h_law_rows Φ) := by
  intro S n most hS h2 h10
  unfold h_law_rows q_law_rows
  refine run_body (runB_cons ?_)
  unfold cr_1
  have e1 : ((most : Int) - 1) = ((most - 1 : Nat) : Int) := by omega
  simp [e1]
  repeat (first | with_reducible refine run_go ?_ | with_reducible refine run_bool ?_)
  refine (hD S n (most - 1) hS (by omega) (by omega)).mono ?_
  rintro _ S1 ⟨i, rfl, hi, m1⟩
  simp
  refine runB_cons ?_
  unfold cr_2
  simp
  repeat (first | with_reducible refine run_go ?_ | with_reducible refine run_bool ?_)
  refine (hD S1 n 15 m1.1 (by omega) (by omega)).mono ?_
  rintro _ S2 ⟨s, rfl, hs, m2⟩
  simp
  refine runB_cons ?_
  unfold cr_3
  obtain ⟨m, hm⟩ : ∃ m, m = i + 2 := ⟨_, rfl⟩
  have em : (2 : Int) + i = (m : Int) := by omega
  rw [em]
  have i1 : itemsOf .range1 [.int (m : Int)] = some ((List.range' 0 m).map fun j : Nat => D.int (j : Int)) := items_rangeN (by omega)
  have hline : m < line := by simp [line]; omega
  simp [i1]
  repeat (first | with_reducible refine run_go ?_ | with_reducible refine run_bool ?_)
  refine run_comp1 (fun j => pd (97 + (s + j))) _ (fun j hj => ?_) ?_
  · have hj' : j < m := by have := List.mem_range'.mp hj; omega
    have e2 := letters_at (S := S2) (i := s + j) (by omega)
    have e3 : ((s + j : Nat) : Int) = (s : Int) + j := by omega
    have e4 : (("abcdefghijklmnopqrstuvwxyz" : Str)) = LETTERS := rfl
    rw [e3] at e2
    rw [kF_run]
    simp [wipe, e4, e2]
  obtain ⟨l, hl⟩ : ∃ l, l = List.range' (97 + s) m := ⟨_, rfl⟩
  have hl1 : ((List.range' 0 m).map fun j => pd (97 + (s + j))) = l.map pd := by
    rw [hl, List.range'_eq_map_range (s := 97 + s), List.map_map, ← List.range_eq_range']
    exact List.map_congr_left fun j _ => by simp [Nat.add_assoc]
  rw [hl1]
  have hl0 : l ≠ [] := by rw [hl]; intro z; have := congrArg List.length z; simp at this; omega
  have hll : l.length = m := by rw [hl]; simp
  have hlp : l.Pairwise (· < ·) := by rw [hl]; exact List.pairwise_lt_range'
  have hlet : ∀ c ∈ l, isLet c = true := fun c hc => by
    rw [hl] at hc
    have := List.mem_range'.mp hc
    unfold isLet
    simp
    omega
  have hsm : small1 l := fun t ht => let_small (hlet t ht)
  simp [hline]
  refine runB_cons ?_
  unfold cr_4
  have i2 : itemsOf .seq [.lst (l.map pd)] = some (l.map pd) := rfl
  simp [i2]
  repeat (first | with_reducible refine run_go ?_ | with_reducible refine run_bool ?_)
  refine run_compM (fun done ds s => ∃ es : List Nat, ds = es.map pd ∧ es.Sublist done ∧ Sips n S2 s) _ ⟨[], rfl, .refl _, .refl m2.1⟩ ?_ ?_
  · rintro done x todo ds s' e ⟨es, rfl, hsub, m3⟩
    rw [kF_run]
    simp [wipe]
    repeat (first | with_reducible refine run_go ?_ | with_reducible refine run_bool ?_)
    refine (hD s' n 3 m3.1 (by omega) (by omega)).mono ?_
    rintro _ s3 ⟨v, rfl, hv, m4⟩
    by_cases hv0 : v = 0
    · simp [hv0]
      exact ⟨es ++ [x], by simp, hsub.append (.refl _), m3.trans m4⟩
    · have : ¬ ((v : Int) = 0) := by omega
      simp [this, hv0]
      exact ⟨es, rfl, hsub.trans (List.sublist_append_left _ _), m3.trans m4⟩
  rintro _ S3 ⟨es0, rfl, hsub, m3⟩
  have hline2 : l.length < line := by rw [hll]; exact hline
  simp [hline2]
  refine runB_cons ?_
  unfold cr_5
  have e5 := c_neNil (S := S3) (l := es0) (fun t ht => hsm t (hsub.subset ht))
  have e6 := mem_last (S := S3) hl0
  obtain ⟨es, hes, hes0, hesl, hese⟩ : ∃ es : List Nat, es = (if es0.isEmpty = true then [l.getLast hl0] else es0) ∧ es ≠ [] ∧ (∀ e ∈ es, e ∈ l) ∧ es = l.filter fun c => decide (c ∈ es) := by
    have hnd : l.Nodup := hlp.imp fun h => Nat.ne_of_lt h
    have hsb : (if es0.isEmpty = true then [l.getLast hl0] else es0).Sublist l := by
      split
      · exact List.singleton_sublist.mpr (List.getLast_mem hl0)
      · exact hsub
    refine ⟨_, rfl, ?_, fun e he => hsb.subset he, sub_filter hsb hnd⟩
    split
    · simp
    · rename_i h
      simpa using h
  have s5 : denX Φ (.ite (.cmp .ne (.var 6) (.lst [])) (.var 6) (.lst [(.ix (.var 5) (.neg (.cst (.int 1))))])) [some (.obj n), some (.int most), some (.int m), some (.str "abcdefghijklmnopqrstuvwxyz"), some (.int s), some (.lst (l.map pd)), some (.lst (es0.map pd)), none, none, none, none, none, none, none] S3 = .ok (.lst (es.map pd)) S3 := by
    rw [hes]
    cases z : es0.isEmpty <;> rw [z] at e5 <;> simp [e5, e6]
  rw [s_asg, s5, go_ok]
  simp
  refine runB_cons ?_
  unfold cr_6
  simp
  refine runB_cons ?_
  refine cfound_run (es := es) hD hP hQ m3.1 hl0 (by omega) fun r o8 o12 S4 hpl hrow m4 => ?_
  simp
  refine runB_cons ?_
  unfold cr_8
  simp
  refine runB_cons ?_
  have hlen : r.length = m := by
    have := congrArg List.length hpl
    unfold places at this
    simpa [hll] using this
  have hh0 : homes0 r = es := homes0_of hrow (by rw [hpl]; exact hese)
  refine chome_run hrow hh0 hsm (by omega) hlen.symm fun o8 o10 o12 o13 => ?_
  simp
  refine runB_cons ?_
  obtain ⟨e, es', hee⟩ := List.exists_cons_of_ne_nil hes0
  have hee0 : es.head? = some e := by rw [hee]; rfl
  have hein : e ∈ es := by rw [hee]; simp
  have hesh : ∀ e ∈ es, e ∈ homeAfter r m := fun e h => by
    rw [← hh0] at h
    obtain ⟨p, hp, rfl⟩ := List.mem_map.mp h
    obtain ⟨hp, hn⟩ := List.mem_filter.mp hp
    exact homeAfter_num m hp hn
  refine cfix_run hee0 hrow hesh (fun p hp hph a ha hea => ?_) (by omega) hlen.symm fun o8 o11 o12 => ?_
  · have h1 : Reach r e := home_iff.mp (by rw [hlen]; exact hesh e hein)
    have h2 : Reach r p.1 := .arr (l := a) (t := e) (by rw [← ha]; exact hp) hea h1
    exact hph (by rw [← hlen]; exact home_iff.mpr h2)
  simp [-List.map_map]
  refine runB_cons ?_
  unfold cr_11
  simp [-List.map_map]
  obtain ⟨f1, f2⟩ := rows_fixW hpl hl0 hlp (by omega) hlet hrow hein hesl
  rw [hlen] at f1 f2
  refine ⟨r.map (fixW (homeAfter r m) e), rfl, f1, by rw [List.length_map]; omega, by rw [List.length_map]; omega, f2, ((m1.trans m2).trans m3).trans m4, 97 + s, m, ?_⟩
  rw [← hl, ← hpl]
  unfold places
  rw [List.map_map]
  exact List.map_congr_left fun p _ => by show (fixW (homeAfter r m) e p).1 = p.1; unfold fixW; split <;> rfl
/-! ### a web with its rows -/
def WebQ (n most : Nat) (S : Sto) (d : D) (S' : Sto) : Prop := ∃ r w, d = .tup [webD r w, rowsD r] ∧ RowsOk r ∧ 2 ≤ r.length ∧ r.length ≤ most ∧ (∀ p ∈ r, ∀ q, p.2 = .num q → q.den ≤ 9) ∧ Sips n S S' ∧ ∃ s m, places r = List.range' s m
def DrawsWeb (F : List D → M D) : Prop := ∀ (S : Sto) (n most : Nat), CupAt S n → 2 ≤ most → most ≤ 10 → Run (F [.obj n, .int most] S) (WebQ n most S)
theorem web_law_ok (hR : DrawsRows (Φ.fn 2007)) (hI : InitF (Φ.fn 500)) : DrawsWeb (h_law_web2 Φ) := by
  intro S n most hS h2 h10
  unfold h_law_web2 q_law_web2
  refine run_body (runB_cons ?_)
  simp
  repeat (first | with_reducible refine run_go ?_ | with_reducible refine run_bool ?_)
  refine (hR S n most hS h2 h10).mono ?_
  rintro _ S1 ⟨r, rfl, hr, h3, h4, h5, m1, h6⟩
  obtain ⟨w, ew⟩ := hI r hr
  simp
  refine runB_cons ?_
  simp [ew]
  exact ⟨r, w, rfl, hr, h3, h4, h5, m1, h6⟩
end
end RF
end
section
set_option linter.all false
set_option maxRecDepth 100000
set_option maxHeartbeats 4000000
set_option autoImplicit false
/-! RfR75: k75's own function. -/
namespace RF
open PySem (Str)
end RF
end
section
set_option linter.all false
set_option maxRecDepth 100000
set_option maxHeartbeats 4000000
set_option autoImplicit false
/-! RfCert2: certificates on moves and bids. -/
namespace RF
open PySem (Str)
section
variable {Φ : Fns} {k c e n m t i j : Nat} {a b q s v : Rat} {S : Sto} {d P : D} {l ks js : List Nat} {r : Rows} {f g x : Nat → Rat} {w : Str} {δ : En}
def CheckMovesOk (F : List D → M D) : Prop := ∀ (n : Nat) (S : Sto), n ≤ 60 → F [.int n] S = .ok .non S
theorem checkMoves_ok (h : BetweenOk (Φ.fn 0)) (hG : Φ.gl 3 = .int 60) : CheckMovesOk (g_check_moves Φ) := by
  intro n S hn
  have e := h (.int n) (some 0) (some 60) S rfl
  have e2 : isBetween (.int n) (some 0) (some 60) = true := by
    simp [isBetween]
    omega
  rw [e2] at e
  have e' : Φ.fn 0 [.int n, .int 0, .int 60] S = .ok (.bl true) S := e
  unfold g_check_moves p_check_moves
  simp [runB_run, hG, e']
/-! ### bids -/
end
end RF
end
section
set_option linter.all false
set_option maxRecDepth 100000
set_option maxHeartbeats 4000000
set_option autoImplicit false
/-! RfBids: steps, best moves, winners; bids that are safe, for both sides. -/
namespace RF
open PySem (Str)
section
variable {Φ : Fns} {S S' : Sto} {n m k j c t : Nat} {d : D} {i : Int} {a b q s : Rat} {δ : En} {r : Rows} {f : Nat → Rat} {l ks : List Nat} {w : Str} {fs : Bool}
/-- a side: first, second -/
def sideS (fs : Bool) : Str := if fs = true then "first" else "second"
def sideD (fs : Bool) : D := .str (sideS fs)
@[simp] theorem side_first : sideD true = .str "first" := rfl
@[simp] theorem side_second : sideD false = .str "second" := rfl
/-! ### checks -/
/-! ### safe bids -/
/-! ### steps, best moves, winners -/
end
end RF
end
section
set_option linter.all false
set_option maxRecDepth 100000
set_option maxHeartbeats 4000000
set_option autoImplicit false
/-! RfEnd2: a law that asks by each of some cups; the web that the earlier laws begin with. -/
namespace RF
open PySem (Str)
section
variable {Φ : Fns} {S S' : Sto} {n m k j c t i R : Nat} {d : D} {a b q s : Rat} {δ : En} {r : Rows} {f : Nat → Rat} {l ks : List Nat} {w : Str}
def TrueQ (d : D) (S' : Sto) : Prop := d = .bl true
def RightC (F : List D → M D) : Prop := ∀ (S : Sto) (m : Nat), CupAt S m → Run (F [.obj m] S) TrueQ
/-- all([right(cup(script, k)) for k in range(max(2, min(len(script), K)))]) -/
theorem cups_all {K : Int} {ns : List Int} (hR : RightC (Φ.fn R)) (hU : CupBits (Φ.fn 2011)) (hK : 0 ≤ K) (hK2 : K ≤ 100) (hn : ns.length ≤ 63) (hb : ∀ z ∈ ns, z.natAbs.log2 ≤ 1048576)
    (h0 : δ[0]? = some (some (.frz (ns.map D.int)))) (hi0 : 0 < i) (hi : i < δ.length) :
    Run (denX Φ (.bi .all [(.comp (.call R [(.mkx (.call 2011 [(.var 0), (.var i)]))]) (.nm i) .range1 [(.bi .max [(.cst (.int 2)), (.bi .min [(.bi .len [(.var 0)]), (.cst (.int K))])])] [] [i])]) δ S) TrueQ := by
  obtain ⟨c, hc, hc2⟩ : ∃ c : Nat, (c : Int) = (if (if K < (ns.length : Int) then K else (ns.length : Int)) > 2 then (if K < (ns.length : Int) then K else (ns.length : Int)) else 2) ∧ c ≤ 101 := by
    refine ⟨(if (if K < (ns.length : Int) then K else (ns.length : Int)) > 2 then (if K < (ns.length : Int) then K else (ns.length : Int)) else 2).toNat, ?_, ?_⟩ <;> (split <;> split <;> omega)
  have i1 : itemsOf .range1 [.int (c : Int)] = some ((List.range' 0 c).map fun i : Nat => D.int (i : Int)) := items_rangeN (by omega)
  have hl : ((List.range' 0 c).map fun i : Nat => D.int (i : Int)).length < line := by simp [line]; omega
  have e2 : ((ns.map D.int).length : Int) = ns.length := by simp
  have v0 : getV δ 0 S = .ok (.frz (ns.map D.int)) S := by rw [getV_run, h0]
  have y0 : denXs Φ [(.bi .max [(.cst (.int 2)), (.bi .min [(.bi .len [(.var 0)]), (.cst (.int K))])])] δ S = .ok [.int c] S := by
    simp only [rs_cons, rs_nil, r_bi, r_var, r_cst, v0, go_ok, f_lenF, f_min, f_max, e2, ← hc]
  rw [r_bi, rs_cons, r_comp, y0, go_ok, i1, ofO_some, go_ok]
  refine run_go (run_go (run_go ?_))
  refine run_compM (fun done ds s => ds = done.map fun _ => .bl true) _ rfl ?_ ?_
  · rintro done x todo _ s e rfl
    obtain ⟨_, hx⟩ := range_split e
    have hw1 : (wipe δ [i]).length = δ.length := by simp [wipe]
    have v1 : ∀ S, getV ((wipe δ [i]).set i (some (.int x))) 0 S = .ok (.frz (ns.map D.int)) S := fun S => by
      rw [getV_run, List.getElem?_set_ne (by omega)]
      simp only [wipe]
      rw [List.getElem?_set_ne (by omega), h0]
    have v2 : ∀ S, getV ((wipe δ [i]).set i (some (.int x))) i S = .ok (.int x) S := fun S => by
      rw [getV_run, List.getElem?_set_self (by rw [hw1]; exact hi)]
    obtain ⟨d, _, e1, rfl, a, b, h1, h2, h3, rfl⟩ := (hU ns x s hn hb (by omega)).ex
    rw [kF_run, bT_nm, if_pos (by rw [hw1]; exact hi), ofO_some, go_ok, and_nil, go_ok, if_pos rfl, r_call, rs_cons, r_mkx, r_call, rs_cons, r_var, v1, go_ok, rs_cons, r_var, v2, go_ok, rs_nil, go_ok, go_ok, go_ok, e1, go_ok, go_ok, rs_nil, go_ok, go_ok]
    refine run_go ((hR _ _ ⟨a, b, by simp, h1, h2, h3⟩).mono ?_)
    rintro _ s' rfl
    exact .ok (by simp)
  · rintro _ s rfl
    rw [if_pos hl]
    refine .ok ?_
    rw [rs_nil, go_ok]
    refine .ok ?_
    rw [f_all (bls_map (p := fun _ : Nat => true))]
    exact .ok (by simp [TrueQ])
/-! ### the first web -/
end
end RF
end
section
set_option linter.all false
set_option maxRecDepth 100000
set_option maxHeartbeats 4000000
set_option autoImplicit false
/-! RfKit: small things that many laws ask. -/
namespace RF
open PySem (Str)
section
variable {Φ : Fns} {S S' : Sto} {n m k j c t i : Nat} {d : D} {a b q s : Rat} {δ : En} {r : Rows} {f : Nat → Rat} {l ks : List Nat} {w : Str} {fs : Bool}
@[simp] theorem plain_qd : D.plain (qd q) = true := rfl
@[simp] theorem deep_qd : D.deep (qd q) = 1 := rfl
theorem c_eqBB {p q : Bool} : cmpD .eq (.bl p) (.bl q) S = .ok (.bl (p == q)) S := by
  show (if okEq (.bl p) (.bl q) = true then (pure (.bl (D.eqv (.bl p) (.bl q))) : M D) else M.no) S = _
  rw [if_pos (by rfl)]
  cases p <;> cases q <;> rfl
/-! ### places that are no ends, with where they lead -/
def isArr : What → Bool
  | .num _ => false
  | .arr _ => true
/-- isinstance(what[0], str) -/
theorem str_head {N : Nat} {w : What} (hw : w.ne) {g : M D} : (ixF w.d (.int 0) S).go (isiF N .str) = .ok (.bl (isArr w)) S := by
  cases w with
  | num q =>
    have : ixF (What.num q).d (.int 0) S = .ok (.int q.num) S := ixF_T0
    rw [this]
    rfl
  | arr l =>
    cases l with
    | nil => exact absurd rfl hw
    | cons c l =>
      have : ixF (What.arr (c :: l)).d (.int 0) S = .ok (pd c) S := ixF_T0
      rw [this]
      rfl
end
end RF
end
section
set_option linter.all false
set_option maxRecDepth 100000
set_option maxHeartbeats 4000000
set_option autoImplicit false
/-! RfTurn: how many turns begin: a web, its needs, a place that is no end (printed by tm.py from RfTurn.tmpl). -/
namespace RF
open PySem (Str)
end RF
end
section
set_option linter.all false
set_option maxRecDepth 100000
set_option maxHeartbeats 4000000
set_option autoImplicit false
/-! RfIter: needs within moves: how they fall; the program's functions of moves. -/
namespace RF
open PySem (Str)
section
variable {Φ : Fns} {S S' : Sto} {n m k j c t i : Nat} {d : D} {a b q s v : Rat} {δ : En} {r : Rows} {f g : Nat → Rat} {l ks : List Nat} {w : Str} {fs : Bool}
theorem begin_num (e : whatAt r c = .num q) : beginQ r v c = q := by unfold beginQ; rw [e]; rfl
theorem begin_arr (e : whatAt r c = .arr l) : beginQ r v c = v := by unfold beginQ; rw [e]; rfl
theorem iter_unit (hr : RowsOk r) (hv : v = 0 ∨ v = 1) (hc : c ∈ places r) : 0 ≤ iterQ r v n c ∧ iterQ r v n c ≤ 1 := (iter_dv hr hv n c hc).2
/-! ### the program's functions -/
def NumsWithin (F : List D → M D) : Prop := ∀ (r : Rows) (n : Nat) (v : Rat) (S : Sto), RowsOk r → n ≤ 60 → (v = 0 ∨ v = 1) → ∃ ks, KeysOk r ks ∧ F [rowsD r, .int n, qd v] S = .ok (tabD ks (iterQ r v n)) S
theorem numsWithin_ok (h1 : BegunOk (Φ.fn 57)) (h2 : MovedOk (Φ.fn 58)) : NumsWithin (g_numbers_within Φ) := by
  intro r n v S hr hn hv
  have e1 := h1 r v S hr
  have i1 : itemsOf .range1 [.int (n : Int)] = some ((List.range' 0 n).map fun j : Nat => D.int (j : Int)) := items_rangeN (by omega)
  suffices hh : Run (g_numbers_within Φ [rowsD r, .int n, qd v] S) fun d s => S = s ∧ ∃ ks, KeysOk r ks ∧ d = tabD ks (iterQ r v n) by
    obtain ⟨d, s, e, rfl, ks, hk, rfl⟩ := hh.ex
    exact ⟨ks, hk, e⟩
  unfold g_numbers_within p_numbers_within
  refine run_body (runB_cons ?_)
  obtain ⟨Q, hQ⟩ := hide fun (d : D) (s : Sto) => S = s ∧ ∃ ks, KeysOk r ks ∧ d = tabD ks (iterQ r v n)
  rw [← hQ]
  simp [e1]
  refine runB_cons ?_
  rw [s_for, rs_cons, r_var, getV_run]
  simp only [List.getElem?_cons_zero, List.getElem?_cons_succ, go_ok, rs_nil, i1, ofO_some]
  obtain ⟨I, hI⟩ := hide fun (done : List Nat) (δ : En) (s : Sto) => ∃ ks o4, δ = [some (rowsD r), some (.int n), some (qd v), some (tabD ks (iterQ r v done.length)), o4] ∧ KeysOk r ks ∧ S = s
  refine run_for I _ (by rw [hI]; exact ⟨begP r, none, rfl, begP_perm r, rfl⟩) ?_ ?_
  · intro done x todo δ s e h
    rw [hI] at h
    obtain ⟨ks, o4, rfl, hk, rfl⟩ := h
    obtain ⟨hx, hxn⟩ := range_split e
    have e2 := h2 600 r ks (iterQ r v done.length) S (by decide) hr hk fun c hc => sz_iter hr hv (by omega) hc
    refine run_fF rfl (runB_cons ?_)
    simp [e2]
    rw [hI]
    refine ⟨places r, some (.int x), ?_, List.Perm.refl _, rfl⟩
    simp
    rfl
  · intro δ s h
    rw [hI] at h
    obtain ⟨ks, o4, rfl, hk, rfl⟩ := h
    refine post_nx.mpr (runB_cons ?_)
    simp
    rw [hQ]
    exact ⟨rfl, ks, hk, by simp⟩
def WithinV (v : Rat) (F : List D → M D) : Prop := ∀ (r : Rows) (w : Str) (c n : Nat) (S : Sto), RowsOk r → c ∈ places r → n ≤ 60 → F [webD r w, pd c, .int n] S = .ok (qd (iterQ r v n c)) S
theorem needWithin_ok (h1 : CheckWebOk (Φ.fn 30)) (h2 : CheckPlaceOk (Φ.fn 506)) (h3 : CheckMovesOk (Φ.fn 56)) (h4 : NumsWithin (Φ.fn 59)) (h7 : WebRowsOk (Φ.fn 502)) (hG : Φ.gl 1 = qd 1) : WithinV 1 (g_need_within Φ) := by
  intro r w c n S hr hc hn
  have e1 := h1 r w S
  have e2 := h2 r w c S hr hc
  have e2' := mth_check (r := r) (w := w) (S := S)
  have e3 := h3 n S hn
  obtain ⟨ks, hk, e4⟩ := h4 r n 1 S hr hn (.inr rfl)
  have e7' : propF (Φ.fn 502) 0 (webD r w) S = .ok (rowsD r) S := by rw [prop_web]; exact h7 r w S
  have e5 : ixF (tabD ks (iterQ r 1 n)) (pd c) S = .ok (qd (iterQ r 1 n c)) S := ixF_tab (hk.mem_iff.mpr hc)
  refine run_eq ?_
  unfold g_need_within p_need_within
  refine run_body (runB_cons ?_)
  simp [e1]
  refine runB_cons ?_
  simp [e2, e2']
  refine runB_cons ?_
  simp [e3]
  refine runB_cons ?_
  simp [e7', hG, e4, e5]
theorem holdWithin_ok (h1 : CheckWebOk (Φ.fn 30)) (h2 : CheckPlaceOk (Φ.fn 506)) (h3 : CheckMovesOk (Φ.fn 56)) (h4 : NumsWithin (Φ.fn 59)) (h7 : WebRowsOk (Φ.fn 502)) (hG : Φ.gl 0 = qd 0) : WithinV 0 (g_hold_within Φ) := by
  intro r w c n S hr hc hn
  have e1 := h1 r w S
  have e2 := h2 r w c S hr hc
  have e2' := mth_check (r := r) (w := w) (S := S)
  have e3 := h3 n S hn
  obtain ⟨ks, hk, e4⟩ := h4 r n 0 S hr hn (.inl rfl)
  have e7' : propF (Φ.fn 502) 0 (webD r w) S = .ok (rowsD r) S := by rw [prop_web]; exact h7 r w S
  have e5 : ixF (tabD ks (iterQ r 0 n)) (pd c) S = .ok (qd (iterQ r 0 n c)) S := ixF_tab (hk.mem_iff.mpr hc)
  refine run_eq ?_
  unfold g_hold_within p_hold_within
  refine run_body (runB_cons ?_)
  simp [e1]
  refine runB_cons ?_
  simp [e2, e2']
  refine runB_cons ?_
  simp [e3]
  refine runB_cons ?_
  simp [e7', hG, e4, e5]
/-! ### the least number of moves -/
/-- whether a share parts from the number within so many moves -/
def parts (r : Rows) (v : Rat) (c : Nat) (s : Rat) (n : Nat) : Bool := if v = 1 then decide (iterQ r v n c < s) else decide (s < iterQ r v n c)
end
end RF
end
section
set_option linter.all false
set_option maxRecDepth 100000
set_option maxHeartbeats 4000000
set_option autoImplicit false
/-! RfMono: what lies under its own step lies under what lies over its own (tab_le3: the proof of RfPol's tab_le again). -/
namespace RF
open PySem (Str)
end RF
end
section
set_option linter.all false
set_option maxRecDepth 100000
set_option maxHeartbeats 4000000
set_option autoImplicit false
/-! RfLess: an arrow less: needless arrows. -/
namespace RF
open PySem (Str)
section
variable {Φ : Fns} {k c e n m t i j : Nat} {a b q u v : Rat} {S : Sto} {d P : D} {l l' ks js : List Nat} {r : Rows} {f g x y : Nat → Rat} {w : Str} {δ : En}
/-- where arrows lead but this one -/
def lessA (l : List Nat) (t : Nat) : List Nat := l.filter fun a => decide (a ≠ t)
/-- rows without an arrow -/
def cutR (r : Rows) (c : Nat) (l : List Nat) (t : Nat) : Rows := setAt r c (.arr (lessA l t))
/-- whether an arrow is needless -/
noncomputable def nl (r : Rows) (c : Nat) (l : List Nat) (t : Nat) : Bool := !(lessA l t).isEmpty && (decide (lost (cutR r c l t) = []) && (places r).all fun p => decide (needQ (cutR r c l t) p = needQ r p))
/-! ### the program's word -/
end
end RF
end
section
set_option linter.all false
set_option maxRecDepth 100000
set_option maxHeartbeats 4000000
set_option autoImplicit false
/-! RfEnds: the web's words on its ends; needs with other numbers of the ends. -/
namespace RF
open PySem (Str)
end RF
end
section
set_option linter.all false
set_option maxRecDepth 100000
set_option maxHeartbeats 4000000
set_option autoImplicit false
/-! RfR20: k20's own function and law (printed by tm.py from RfR20.tmpl). -/
namespace RF
open PySem (Str)
end RF
end
section
set_option linter.all false
set_option maxRecDepth 100000
set_option maxHeartbeats 4000000
set_option autoImplicit false
/-! RfR18: k18's own function and law (printed by tm.py from RfR18.tmpl). -/
namespace RF
open PySem (Str)
end RF
end
section
set_option linter.all false
set_option maxRecDepth 100000
set_option maxHeartbeats 4000000
set_option autoImplicit false
/-! RfR12: k12's own functions (printed by tm.py from RfR12.tmpl). -/
namespace RF
open PySem (Str)
section
variable {Φ : Fns} {S S' : Sto} {n m k j c t i : Nat} {d : D} {a b q s o : Rat} {δ : En} {r : Rows} {f : Nat → Rat} {l ks : List Nat} {w : Str} {fs : Bool}
/-! ### what the other side can do -/
def chg (fs : Bool) (b : Rat) : Rat := if fs = true then 0 - b else b
def mov (fs : Bool) (o : Rat) : Rat := if fs = true then o else 0 - o
def cd (p : Nat × Rat) : D := .tup [pd p.1, qd p.2]
/-! ### one turn -/
/-! ### the law -/
end
end RF
end
section
set_option linter.all false
set_option maxRecDepth 100000
set_option maxHeartbeats 4000000
set_option autoImplicit false
/-! RfR08: k08's own functions (printed by tm.py from RfR08.tmpl). -/
namespace RF
open PySem (Str)
section
variable {Φ : Fns} {S S' : Sto} {n m k j c t i : Nat} {d : D} {a b q s v : Rat} {δ : En} {r : Rows} {f g : Nat → Rat} {l ks : List Nat} {w : Str} {fs : Bool}
theorem half_by (hT : AddOk (· * ·) (Φ.fn 2025)) (hk : k ≤ 4000) (h2 : 2 ≤ k) (h : sz k a) : Φ.fn 2025 [qd hf, qd a] S = .ok (qd (a / 2)) S := by
  have := hT k hf a S hk (Sz.to h2) h
  dsimp only at this
  rwa [hf_mul] at this
/-! ### k08 -/
/-! ### k09 -/
end
end RF
end
section
set_option linter.all false
set_option maxRecDepth 100000
set_option maxHeartbeats 4000000
set_option autoImplicit false
/-! RfR15: k15's own functions and law (printed by tm.py from RfR15.tmpl). -/
namespace RF
open PySem (Str)
section
variable {Φ : Fns} {S S' : Sto} {n m k j c t i : Nat} {d : D} {a b q s v lo hi : Rat} {δ : En} {r r' : Rows} {f g x y : Nat → Rat} {l ks done : List Nat} {w : Str} {fs best : Bool}
/-! ### sizes -/
theorem bots_9 : ∀ r : Rows, (∀ p ∈ r, ∀ q, p.2 = .num q → q.den ≤ 9) → bots r ≤ 2 ^ (4 * r.length)
  | [], _ => by decide
  | (c, .num q) :: r, h => by
    have ih := bots_9 r fun p hp => h p (List.mem_cons_of_mem _ hp)
    have hq : q.den ≤ 9 := h (c, .num q) (by simp) q rfl
    have : q.den * bots r ≤ 2 ^ 4 * 2 ^ (4 * r.length) := Nat.mul_le_mul (by omega) ih
    rw [← Nat.pow_add] at this
    have e : 4 + 4 * r.length = 4 * ((c, What.num q) :: r).length := by rw [List.length_cons]; omega
    rw [e] at this
    exact this
  | (c, .arr l) :: r, h => by
    have ih := bots_9 r fun p hp => h p (List.mem_cons_of_mem _ hp)
    refine Nat.le_trans ih (Nat.pow_le_pow_right (by decide) ?_)
    rw [List.length_cons]
    omega
theorem sz_iter9 (hr : RowsOk r) (h6 : r.length ≤ 6) (h9 : ∀ p ∈ r, ∀ q, p.2 = .num q → q.den ≤ 9) (hv : v = 0 ∨ v = 1) (hi : i ≤ 6) (hc : c ∈ places r) : sz 32 (iterQ r v i c) := by
  obtain ⟨h1, h2, h3⟩ := iter_dv hr hv i c hc
  have hb := bots_9 r h9
  have h4 : bots r * 2 ^ i ≤ 2 ^ (4 * r.length) * 2 ^ i := Nat.mul_le_mul_right _ hb
  rw [← Nat.pow_add] at h4
  have h5 : 2 ^ (4 * r.length + i) < 2 ^ 32 := Nat.pow_lt_pow_right (by decide) (by omega)
  exact sz_dv (Nat.mul_pos (bots_pos r) (Nat.two_pow_pos i)) h1 h2 h3 (by omega)
/-! ### walking down -/
theorem down_map : ∀ (n : Nat) (hi : Int), downL n hi = (List.range' 0 n).map fun i : Nat => D.int (hi - i)
  | 0, _ => rfl
  | n + 1, hi => by
    have e : List.range' 0 (n + 1) = 0 :: (List.range' 0 n).map (· + 1) := by
      rw [List.range'_succ]
      congr 1
      refine List.ext_getElem (by simp) fun i h1 h2 => ?_
      simp
      omega
    rw [e, List.map_cons, List.map_map]
    show D.int hi :: downL n (hi - 1) = _
    rw [down_map n (hi - 1)]
    congr 1
    · simp
    · refine List.map_congr_left fun i _ => ?_
      show D.int (hi - 1 - i) = D.int (hi - ((i + 1 : Nat) : Int))
      congr 1
      omega
theorem items_down (h : n ≤ 1000000) : itemsOf .range3 [.int (n : Int), .int 0, .int (-1)] = some ((List.range' 0 n).map fun i : Nat => D.int ((n : Int) - i)) := by
  have h1 : small (n : Int) = true := by unfold small; simp; omega
  have h2 : small 0 = true := by decide
  show (if ((small (n : Int) && small 0) && (-1 : Int) == -1) = true then some (downL ((n : Int) - 0).toNat n) else none) = _
  rw [h1, h2, if_pos (by decide), down_map]
  simp
theorem minL_at (h : t ∈ l) (hm : ∀ x ∈ l, f t ≤ f x) : minL l f = f t := by
  have h0 : l ≠ [] := fun z => by rw [z] at h; cases h
  obtain ⟨u, hu, e⟩ := minL_mem (f := f) h0
  have h1 := minL_le (f := f) h
  have h2 := hm u hu
  grind
theorem maxL_at (h : t ∈ l) (hm : ∀ x ∈ l, f x ≤ f t) : maxL l f = f t := by
  have h0 : l ≠ [] := fun z => by rw [z] at h; cases h
  obtain ⟨u, hu, e⟩ := maxL_mem (f := f) h0
  have h1 := maxL_le (f := f) h
  have h2 := hm u hu
  grind
/-! ### the least and the greatest need where arrows lead -/
def goalD (f : Nat → Rat) (t : Nat) : D := .tup [qd (f t), pd t]
/-! ### a match -/
theorem iter_num (ew : whatAt r c = .num q) : iterQ r v n c = q := by
  cases n with
  | zero => exact begin_num ew
  | succ n => show stepQ r _ c = q; unfold stepQ; rw [ew]; rfl
theorem iter_arr (ew : whatAt r c = .arr l) : iterQ r v (n + 1) c = (minL l (iterQ r v n) + maxL l (iterQ r v n)) / 2 := by
  show stepQ r _ c = _
  unfold stepQ
  rw [ew]
  rfl
end
end RF
end
section
set_option linter.all false
set_option maxRecDepth 100000
set_option maxHeartbeats 4000000
set_option autoImplicit false
/-! RfR14: k14's own functions and law (printed by tm.py from RfR14.tmpl). -/
namespace RF
open PySem (Str)
def ea_b1_1 : RF.S := (.asg (.nm 5) (.ite (.call 2023 [(.ix (.var 7) (.cst (.int 0))), (.ix (.var 5) (.cst (.int 0)))]) (.var 7) (.var 5)))
def ea_b1_2 : RF.S := (.asg (.nm 6) (.ite (.call 2023 [(.ix (.var 6) (.cst (.int 0))), (.ix (.var 7) (.cst (.int 0)))]) (.var 7) (.var 6)))
def ea_b1 : List RF.S := [ea_b1_1, ea_b1_2]
def ea_1 : RF.S := (.asg (.nm 4) (.comp (.tup [(.ite (.cmp .eq (.var 3) (.cst (.str "first"))) (.call 60 [(.var 0), (.var 8), (.var 2)]) (.call 61 [(.var 0), (.var 8), (.var 2)])), (.var 8)]) (.nm 8) .seq [(.var 1)] [] [8]))
def ea_2 : RF.S := (.par [5, 6] [(.ix (.var 4) (.cst (.int 0))), (.ix (.var 4) (.cst (.int 0)))])
def ea_3 : RF.S := (.forr (.nm 7) .seq [(.var 4)] ea_b1)
def ea_4 : RF.S := (.ret (some (.tup [(.var 5), (.var 6)])))
/-- 2045: 0 web, 1 what, 2 many, 3 side, 4 found, 5 low, 6 high, 7 pair, 8 to -/
def q_law_ends_by : List RF.S := [ea_1, ea_2, ea_3, ea_4]
noncomputable def h_law_ends_by (Φ : Fns) (ds : List D) : M D := runB (denSs Φ fuel q_law_ends_by) 9 ds
def pw_b1_1 : RF.S := (.asg (.nm 8) (.ix (.bi .dict [(.var 2)]) (.var 3)))
def pw_b1_2 : RF.S := (.iff (.isi (.ix (.var 8) (.cst (.int 0))) .str) [(.asg (.tup [(.nm 9), (.nm 10)]) (.call 2045 [(.var 1), (.var 8), (.bin .sub (.var 7) (.cst (.int 1))), (.var 6)])), (.asg (.nm 11) (.call 2025 [(.tup [(.cst (.int 1)), (.cst (.int 2))]), (.call 2031 [(.ix (.var 10) (.cst (.int 0))), (.ix (.var 9) (.cst (.int 0)))])])), (.asg (.nm 12) (.ite (.cmp .eq (.var 6) (.cst (.str "first"))) (.ix (.var 9) (.cst (.int 1))) (.ix (.var 10) (.cst (.int 1))))), (.asg (.nm 13) (.ite (.cmp .eq (.var 6) (.cst (.str "first"))) (.call 2031 [(.tup [(.cst (.int 1)), (.cst (.int 1))]), (.var 4)]) (.var 4))), (.asg (.nm 14) (.call 2004 [(.var 0), (.lst [(.tup [(.cst (.int 0)), (.cst (.int 1))]), (.var 11), (.call 2025 [(.tup [(.cst (.int 1)), (.cst (.int 2))]), (.var 13)]), (.var 13), (.call 2025 [(.tup [(.cst (.int 2)), (.cst (.int 3))]), (.var 11)])])])), (.asg (.nm 14) (.ite (.call 2023 [(.var 13), (.var 14)]) (.var 13) (.var 14))), (.asg (.nm 15) (.or [(.call 2023 [(.var 14), (.var 11)]), (.and [(.cmp .eq (.var 14) (.var 11)), (.cmp .eq (.call 2003 [(.var 0), (.cst (.int 2))]) (.cst (.int 0)))])])), (.asg (.nm 16) (.ite (.var 15) (.var 11) (.var 14))), (.asg (.nm 17) (.cmp .eq (.var 15) (.cmp .eq (.var 6) (.cst (.str "first"))))), (.asg (.nm 3) (.ite (.var 15) (.var 12) (.call 2004 [(.var 0), (.bin .add (.bi .list [(.var 8)]) (.lst [(.ite (.cmp .eq (.var 6) (.cst (.str "first"))) (.ix (.var 10) (.cst (.int 1))) (.ix (.var 9) (.cst (.int 1))))]))]))), (.asg (.nm 4) (.ite (.var 17) (.call 2031 [(.var 4), (.var 16)]) (.call 2026 [(.var 4), (.var 16)]))), (.iff (.or [(.cmp .lt (.ix (.var 4) (.cst (.int 0))) (.cst (.int 0))), (.call 2023 [(.tup [(.cst (.int 1)), (.cst (.int 1))]), (.var 4)])]) [(.ret (some (.cst (.bl false))))] [])] [])
def pw_b1 : List RF.S := [pw_b1_1, pw_b1_2]
def pw_1 : RF.S := (.forr (.nm 7) .range3 [(.var 5), (.cst (.int 0)), (.neg (.cst (.int 1)))] pw_b1)
def pw_2 : RF.S := (.asg (.nm 8) (.ix (.bi .dict [(.var 2)]) (.var 3)))
def pw_3 : RF.S := (.iff (.isi (.ix (.var 8) (.cst (.int 0))) .str) [(.ret (some (.cst (.bl false))))] [])
def pw_4 : RF.S := (.ret (some (.ite (.cmp .eq (.var 6) (.cst (.str "first"))) (.call 2023 [(.var 8), (.var 4)]) (.call 2023 [(.var 4), (.var 8)]))))
/-- 2046: 0 cup, 1 web, 2 rows, 3 place, 4 share, 5 many, 6 side, 7 left, 8 what, 9 low, 10 high, 11 bid, 12 to, 13 other_purse, 14 other, 15 own_pays, 16 change, 17 first_pays -/
def q_law_played : List RF.S := [pw_1, pw_2, pw_3, pw_4]
noncomputable def h_law_played (Φ : Fns) (ds : List D) : M D := runB (denSs Φ fuel q_law_played) 18 ds
def rw_b1_1 : RF.S := (.asg (.tup [(.nm 2), (.nm 3)]) (.call 2272 [(.var 0), (.cst (.int 6))]))
def rw_b1_2 : RF.S := (.par [4, 5, 6] [(.ix (.call 2004 [(.var 0), (.bi .list [(.var 3)])]) (.cst (.int 0))), (.bin .add (.cst (.int 1)) (.call 2003 [(.var 0), (.cst (.int 6))])), (.call 2004 [(.var 0), (.lst [(.cst (.str "first")), (.cst (.str "second"))])])])
def rw_b1_3 : RF.S := (.asg (.nm 7) (.ite (.cmp .eq (.var 6) (.cst (.str "first"))) (.call 60 [(.var 2), (.var 4), (.var 5)]) (.call 61 [(.var 2), (.var 4), (.var 5)])))
def rw_b1_4 : RF.S := (.iff (.and [(.cmp .eq (.var 6) (.cst (.str "first"))), (.call 2023 [(.var 7), (.tup [(.cst (.int 1)), (.cst (.int 1))])])]) [(.asg (.nm 8) (.call 2004 [(.var 0), (.lst [(.tup [(.cst (.int 1)), (.cst (.int 1))]), (.call 2025 [(.tup [(.cst (.int 1)), (.cst (.int 2))]), (.call 2026 [(.var 7), (.tup [(.cst (.int 1)), (.cst (.int 1))])])]), (.call 2025 [(.tup [(.cst (.int 1)), (.cst (.int 9))]), (.call 2026 [(.call 2025 [(.tup [(.cst (.int 8)), (.cst (.int 1))]), (.var 7)]), (.tup [(.cst (.int 1)), (.cst (.int 1))])])])])])), (.iff (.not (.call 2046 [(.var 0), (.var 2), (.var 3), (.var 4), (.var 8), (.var 5), (.var 6)])) [(.ret (some (.cst (.bl false))))] [])] [])
def rw_b1_5 : RF.S := (.iff (.and [(.cmp .eq (.var 6) (.cst (.str "second"))), (.cmp .gt (.ix (.var 7) (.cst (.int 0))) (.cst (.int 0)))]) [(.asg (.nm 8) (.call 2004 [(.var 0), (.lst [(.tup [(.cst (.int 0)), (.cst (.int 1))]), (.call 2025 [(.tup [(.cst (.int 1)), (.cst (.int 2))]), (.var 7)]), (.call 2025 [(.tup [(.cst (.int 8)), (.cst (.int 9))]), (.var 7)])])])), (.iff (.not (.call 2046 [(.var 0), (.var 2), (.var 3), (.var 4), (.var 8), (.var 5), (.var 6)])) [(.ret (some (.cst (.bl false))))] [])] [])
def rw_b1 : List RF.S := [rw_b1_1, rw_b1_2, rw_b1_3, rw_b1_4, rw_b1_5]
def rw_1 : RF.S := (.forr (.nm 1) .range1 [(.cst (.int 5))] rw_b1)
def rw_2 : RF.S := (.ret (some (.cst (.bl true))))
/-- 2282: 0 cup, 1 turn, 2 web, 3 rows, 4 place, 5 many, 6 side, 7 edge, 8 share -/
def q_law_right83 : List RF.S := [rw_1, rw_2]
noncomputable def h_law_right83 (Φ : Fns) (ds : List D) : M D := runB (denSs Φ fuel q_law_right83) 9 ds
def l14_1 : RF.S := (.ret (some (.bi .all [(.comp (.call 2282 [(.mkx (.call 2011 [(.var 0), (.var 1)]))]) (.nm 1) .range1 [(.bi .max [(.cst (.int 2)), (.bi .min [(.bi .len [(.var 0)]), (.cst (.int 4))])])] [] [1])])))
/-- 1000: 0 script, 1 spot -/
def q_law_k14 : List RF.S := [l14_1]
section
variable {Φ : Fns} {S S' : Sto} {n m k j c t i : Nat} {d : D} {a b q s v lo hi : Rat} {δ : En} {r r' : Rows} {f g x y : Nat → Rat} {l ks done : List Nat} {w : Str} {fs best : Bool}
def vQ (fs : Bool) : Rat := if fs = true then 1 else 0
theorem vQ01 : vQ fs = 0 ∨ vQ fs = 1 := by cases fs <;> simp [vQ]
theorem side_eq : cmpD .eq (sideD fs) (.str "first") S = .ok (.bl fs) S := by
  cases fs
  · show Out.ok (D.bl (decide (("second" : Str) = "first"))) S = _
    rw [decide_eq_false (by decide +kernel)]
  · show Out.ok (D.bl (decide (("first" : Str) = "first"))) S = _
    rw [decide_eq_true rfl]
def zJ : Nat → Nat
  | 0 => 42
  | n + 1 => 2 * zJ n + 71
theorem zJ_le : ∀ n, n ≤ 6 → zJ n ≤ 7161 := by decide
theorem zJ_lt : ∀ n, n < 6 → zJ n ≤ 3545 := by decide
theorem zJ_ge : ∀ n, 42 ≤ zJ n
  | 0 => Nat.le_refl _
  | n + 1 => by have := zJ_ge n; unfold zJ; omega
/-! ### the least and the greatest need, or hold, where arrows lead -/
def EndsBy (F : List D → M D) : Prop := ∀ (r : Rows) (w : Str) (l : List Nat) (n : Nat) (fs : Bool) (S : Sto), RowsOk r → l ≠ [] → l.length ≤ 1000 → (∀ t ∈ l, t ∈ places r) → n ≤ 60 →
  ∃ a ∈ l, ∃ b ∈ l, iterQ r (vQ fs) n a = minL l (iterQ r (vQ fs) n) ∧ iterQ r (vQ fs) n b = maxL l (iterQ r (vQ fs) n) ∧ F [webD r w, (What.arr l).d, .int n, sideD fs] S = .ok (.tup [goalD (iterQ r (vQ fs) n) a, goalD (iterQ r (vQ fs) n) b]) S
theorem endsBy_ok (h60 : WithinV 1 (Φ.fn 60)) (h61 : WithinV 0 (Φ.fn 61)) (hB : BelowOk (Φ.fn 2023)) : EndsBy (h_law_ends_by Φ) := by
  intro r w l n fs S hr h0 hl hs hn
  have e60 := fun t ht => h60 r w t n S hr (hs t ht) hn
  have e61 := fun t ht => h61 r w t n S hr (hs t ht) hn
  have zf : ∀ t ∈ l, sz 600 (iterQ r (vQ fs) n t) := fun t ht => sz_iter hr vQ01 (by omega) (hs t ht)
  have e6 : ∀ t ∈ l, ∀ δ : En, δ[0]? = some (some (webD r w)) → δ[8]? = some (some (pd t)) → δ[2]? = some (some (.int n)) → δ[3]? = some (some (sideD fs)) → denX Φ (.ite (.cmp .eq (.var 3) (.cst (.str "first"))) (.call 60 [(.var 0), (.var 8), (.var 2)]) (.call 61 [(.var 0), (.var 8), (.var 2)])) δ S = .ok (qd (iterQ r (vQ fs) n t)) S := fun t ht δ g0 g8 g2 g3 => by
    rw [r_ite, r_cmp, r_var, getV_run, g3]
    simp only [go_ok, r_cst, side_eq, bool_bl]
    cases fs <;> simp [g0, g8, g2, e60 t ht, e61 t ht, vQ]
  suffices Run (h_law_ends_by Φ [webD r w, (What.arr l).d, .int n, sideD fs] S) fun d s => s = S ∧ ∃ a ∈ l, ∃ b ∈ l, iterQ r (vQ fs) n a = minL l (iterQ r (vQ fs) n) ∧ iterQ r (vQ fs) n b = maxL l (iterQ r (vQ fs) n) ∧ d = .tup [goalD (iterQ r (vQ fs) n) a, goalD (iterQ r (vQ fs) n) b] by
    obtain ⟨d, s, e, rfl, a, ha, b, hb, h1, h2, rfl⟩ := this.ex
    exact ⟨a, ha, b, hb, h1, h2, e⟩
  generalize iterQ r (vQ fs) n = f at *
  obtain ⟨Q, hQ⟩ := hide fun (d : D) (s : Sto) => s = S ∧ ∃ a ∈ l, ∃ b ∈ l, f a = minL l f ∧ f b = maxL l f ∧ d = .tup [goalD f a, goalD f b]
  rw [← hQ]
  have i1 : itemsOf .seq [(What.arr l).d] = some (l.map pd) := rfl
  have hll : l.length < line := by simp [line]; omega
  unfold h_law_ends_by q_law_ends_by
  refine run_body (runB_cons ?_)
  unfold ea_1
  simp only [s_asg, r_comp, rs_cons, rs_nil, r_var, getV_run, List.map_cons, List.map_nil, List.length_cons, List.length_nil, List.cons_append, List.nil_append, List.getElem?_cons_zero, List.getElem?_cons_succ, go_ok, i1, ofO_some]
  rw [comp_map1 (f := goalD f) fun t ht => ?_]
  rotate_left
  · rw [kF_run, bT_nm, if_pos (by simp [wipe]), ofO_some, go_ok, and_nil, go_ok, if_pos rfl, r_tup, rs_cons, e6 t ht _ rfl rfl rfl rfl]
    simp [wipe, goalD]
  simp [hll]
  obtain ⟨u, L, rfl⟩ : ∃ u L, l = u :: L := by
    cases l with
    | nil => exact absurd rfl h0
    | cons u L => exact ⟨u, L, rfl⟩
  have x0 : ixF (.lst ((u :: L).map (goalD f))) (.int 0) S = .ok (goalD f u) S := ixF_L0
  refine runB_cons ?_
  unfold ea_2
  simp only [List.map_cons] at x0 ⊢
  simp [x0]
  refine runB_cons ?_
  unfold ea_3
  have i2 : itemsOf .seq [.lst (goalD f u :: L.map (goalD f))] = some ((u :: L).map (goalD f)) := rfl
  simp only [s_for, rs_cons, rs_nil, r_var, getV_run, List.getElem?_cons_zero, List.getElem?_cons_succ, go_ok, i2, ofO_some]
  have n0 : ∀ (t : Nat) S, ixF (goalD f t) (.int 0) S = .ok (qd (f t)) S := fun t S => ixF_T0
  refine run_for (fun done δ s => s = S ∧ ∃ a b o7, δ = [some (webD r w), some ((What.arr (u :: L)).d), some (.int n), some (sideD fs), some ((.lst (goalD f u :: L.map (goalD f)))), some (goalD f a), some (goalD f b), o7, none] ∧ a ∈ u :: L ∧ b ∈ u :: L ∧ (∀ x ∈ done, f a ≤ f x ∧ f x ≤ f b) ∧ f a ≤ f u ∧ f u ≤ f b) _ ⟨rfl, u, u, none, rfl, by simp, by simp, (fun x hx => nomatch hx), Rat.le_refl, Rat.le_refl⟩ ?_ ?_
  · rintro done x todo δ s e ⟨rfl, a, b, o7, rfl, ha, hb, hd, h1, h2⟩
    have hx : x ∈ u :: L := by rw [e]; simp
    have b1 := hB 600 (f x) (f a) s (by decide) (zf x hx) (zf a ha)
    have b2 := hB 600 (f b) (f x) s (by decide) (zf b hb) (zf x hx)
    refine run_fF rfl (runB_cons ?_)
    unfold ea_b1_1
    by_cases z1 : f x < f a
    · simp [n0, b1, z1]
      refine runB_cons ?_
      unfold ea_b1_2
      by_cases z2 : f b < f x
      · simp [n0, b2, z2]
        refine ⟨x, x, ⟨rfl, rfl⟩, by simpa using hx, by simpa using hx, fun y hy => ?_, by grind, by grind⟩
        rcases hy with h | h
        · have := hd y h; grind
        · subst h; exact ⟨Rat.le_refl, Rat.le_refl⟩
      · simp [n0, b2, z2]
        refine ⟨x, b, ⟨rfl, rfl⟩, by simpa using hx, by simpa using hb, fun y hy => ?_, by grind, by grind⟩
        rcases hy with h | h
        · have := hd y h; grind
        · subst h; exact ⟨Rat.le_refl, by grind⟩
    · simp [n0, b1, z1]
      refine runB_cons ?_
      unfold ea_b1_2
      by_cases z2 : f b < f x
      · simp [n0, b2, z2]
        refine ⟨a, x, ⟨rfl, rfl⟩, by simpa using ha, by simpa using hx, fun y hy => ?_, by grind, by grind⟩
        rcases hy with h | h
        · have := hd y h; grind
        · subst h; exact ⟨by grind, Rat.le_refl⟩
      · simp [n0, b2, z2]
        refine ⟨a, b, ⟨rfl, rfl⟩, by simpa using ha, by simpa using hb, fun y hy => ?_, by grind, by grind⟩
        rcases hy with h | h
        · have := hd y h; grind
        · subst h; exact ⟨by grind, by grind⟩
  · rintro δ s ⟨rfl, a, b, o7, rfl, ha, hb, hd, h1, h2⟩
    have ea : minL (u :: L) f = f a := minL_at ha fun x hx => (hd x hx).1
    have eb : maxL (u :: L) f = f b := maxL_at hb fun x hx => (hd x hx).2
    refine post_nx.mpr (runB_cons ?_)
    unfold ea_4
    simp
    rw [hQ]
    exact ⟨rfl, a, ha, b, hb, ea.symm, eb.symm, rfl⟩
/-! ### a match -/
def Good (fs : Bool) (r : Rows) (k c : Nat) (s : Rat) : Prop := if fs = true then iterQ r 1 k c < s else s < iterQ r 0 k c
def PlayedS (F : List D → M D) : Prop := ∀ (S : Sto) (m : Nat) (r : Rows) (w : Str) (c : Nat) (s : Rat) (n : Nat) (fs : Bool), CupAt S m → RowsOk r → r.length ≤ 6 → (∀ p ∈ r, ∀ q, p.2 = .num q → q.den ≤ 9) → c ∈ places r → sz 42 s → n ≤ 6 → 0 ≤ s → s ≤ 1 → Good fs r n c s →
  Run (F [.obj m, webD r w, rowsD r, pd c, qd s, .int n, sideD fs] S) fun d S' => d = .bl true ∧ CupAt S' m
def pw_s : List RF.S := [(.asg (.tup [(.nm 9), (.nm 10)]) (.call 2045 [(.var 1), (.var 8), (.bin .sub (.var 7) (.cst (.int 1))), (.var 6)])), (.asg (.nm 11) (.call 2025 [(.tup [(.cst (.int 1)), (.cst (.int 2))]), (.call 2031 [(.ix (.var 10) (.cst (.int 0))), (.ix (.var 9) (.cst (.int 0)))])])), (.asg (.nm 12) (.ite (.cmp .eq (.var 6) (.cst (.str "first"))) (.ix (.var 9) (.cst (.int 1))) (.ix (.var 10) (.cst (.int 1))))), (.asg (.nm 13) (.ite (.cmp .eq (.var 6) (.cst (.str "first"))) (.call 2031 [(.tup [(.cst (.int 1)), (.cst (.int 1))]), (.var 4)]) (.var 4))), (.asg (.nm 14) (.call 2004 [(.var 0), (.lst [(.tup [(.cst (.int 0)), (.cst (.int 1))]), (.var 11), (.call 2025 [(.tup [(.cst (.int 1)), (.cst (.int 2))]), (.var 13)]), (.var 13), (.call 2025 [(.tup [(.cst (.int 2)), (.cst (.int 3))]), (.var 11)])])])), (.asg (.nm 14) (.ite (.call 2023 [(.var 13), (.var 14)]) (.var 13) (.var 14))), (.asg (.nm 15) (.or [(.call 2023 [(.var 14), (.var 11)]), (.and [(.cmp .eq (.var 14) (.var 11)), (.cmp .eq (.call 2003 [(.var 0), (.cst (.int 2))]) (.cst (.int 0)))])])), (.asg (.nm 16) (.ite (.var 15) (.var 11) (.var 14))), (.asg (.nm 17) (.cmp .eq (.var 15) (.cmp .eq (.var 6) (.cst (.str "first"))))), (.asg (.nm 3) (.ite (.var 15) (.var 12) (.call 2004 [(.var 0), (.bin .add (.bi .list [(.var 8)]) (.lst [(.ite (.cmp .eq (.var 6) (.cst (.str "first"))) (.ix (.var 10) (.cst (.int 1))) (.ix (.var 9) (.cst (.int 1))))]))]))), (.asg (.nm 4) (.ite (.var 17) (.call 2031 [(.var 4), (.var 16)]) (.call 2026 [(.var 4), (.var 16)]))), (.iff (.or [(.cmp .lt (.ix (.var 4) (.cst (.int 0))) (.cst (.int 0))), (.call 2023 [(.tup [(.cst (.int 1)), (.cst (.int 1))]), (.var 4)])]) [(.ret (some (.cst (.bl false))))] [])]
theorem pw_split : pw_b1_2 = .iff (.isi (.ix (.var 8) (.cst (.int 0))) .str) pw_s [] := rfl
theorem playedS_ok (hE2 : EndsBy (Φ.fn 2045)) (hP : PickOk (Φ.fn 2004)) (hS0 : SipOk (Φ.fn 2003)) (hT : AddOk (· * ·) (Φ.fn 2025)) (hA : AddOk (· + ·) (Φ.fn 2026)) (hM : AddOk (· - ·) (Φ.fn 2031)) (hB : BelowOk (Φ.fn 2023)) : PlayedS (h_law_played Φ) := by
  intro S m r w c0 s0 n fs hS hr h6 h9 hc0 hs0 hn h00 h01 hg0
  have hlen := hr.len
  obtain ⟨Q, hQ⟩ := hide fun (d : D) (s : Sto) => d = .bl true ∧ CupAt s m
  rw [← hQ]
  unfold h_law_played q_law_played
  refine run_body (runB_cons ?_)
  unfold pw_1
  have i1 := items_down (n := n) (by omega)
  simp only [s_for, rs_cons, rs_nil, r_var, r_cst, r_neg, negF_int, getV_run, List.map_cons, List.cons_append, List.getElem?_cons_zero, List.getElem?_cons_succ, go_ok, i1, ofO_some]
  obtain ⟨I, hI⟩ := hide fun (done : List Nat) (δ : En) (s' : Sto) => CupAt s' m ∧ ∃ (c : Nat) (s : Rat), ∃ o7 o8 o9 o10 o11 o12 o13 o14 o15 o16 o17, δ = [some (.obj m), some (webD r w), some (rowsD r), some (pd c), some (qd s), some (.int n), some (sideD fs), o7, o8, o9, o10, o11, o12, o13, o14, o15, o16, o17] ∧ c ∈ places r ∧ 0 ≤ s ∧ s ≤ 1 ∧ Good fs r (n - done.length) c s ∧ sz (zJ done.length) s
  refine run_for I _ (by rw [hI]; exact ⟨hS, c0, s0, none, none, none, none, none, none, none, none, none, none, none, rfl, hc0, h00, h01, hg0, hs0⟩) ?_ ?_
  · intro done x todo δ S e h
    rw [hI] at h
    obtain ⟨hS, c, s, o7, o8, o9, o10, o11, o12, o13, o14, o15, o16, o17, rfl, hc, p0, p1, hle, zs⟩ := h
    obtain ⟨hx, hxn⟩ := range_split e
    have hlen1 : (done ++ [x]).length = done.length + 1 := by simp
    have hm := what_mem hr hc
    have ed := dict_rows (S := S) hr
    have ex := ixF_rows (S := S) hr hc
    have es := str_head (S := S) (N := Φ.nc) (hr.ne _ hm) (g := M.no)
    dsimp only at es
    have zle := zJ_lt done.length (by omega)
    have zge := zJ_ge done.length
    have zsucc : zJ (done ++ [x]).length = 2 * zJ done.length + 71 := by rw [hlen1]; rfl
    obtain ⟨k, hk⟩ : ∃ k, n - done.length = k + 1 := ⟨n - done.length - 1, by omega⟩
    have hk2 : n - (done ++ [x]).length = k := by rw [hlen1]; omega
    rw [hk] at hle
    have ek : ((n : Int) - x) - 1 = (k : Int) := by omega
    refine run_fF rfl ?_
    unfold pw_b1
    refine runB_cons ?_
    unfold pw_b1_1
    simp [ed, ex]
    refine runB_cons ?_
    rw [pw_split]
    cases ew : whatAt r c with
    | num v =>
      rw [ew] at es
      simp [es, isArr]
      rw [hI]
      refine ⟨hS, c, s, _, _, _, _, _, _, _, _, _, _, _, rfl, hc, p0, p1, ?_, zs.mono (by rw [zsucc]; omega)⟩
      rw [hk2]
      unfold Good at hle ⊢
      rw [iter_num ew, iter_num ew] at hle ⊢
      exact hle
    | arr l =>
      rw [ew] at es hm
      obtain ⟨k1, k2, k3⟩ := kids_pre hr hm rfl
      obtain ⟨a, ha, b, hb, ea, eb, e45⟩ := hE2 r w l k fs S hr k1 k2 k3 (by omega)
      have hle : if fs = true then (minL l (iterQ r (vQ fs) k) + maxL l (iterQ r (vQ fs) k)) / 2 < s else s < (minL l (iterQ r (vQ fs) k) + maxL l (iterQ r (vQ fs) k)) / 2 := by
        unfold Good at hle
        rw [iter_arr ew, iter_arr ew] at hle
        cases fs
        · exact hle
        · exact hle
      have zf : ∀ x ∈ places r, sz 32 (iterQ r (vQ fs) k x) := fun x hx => sz_iter9 hr h6 h9 vQ01 (by omega) hx
      have hu : ∀ x ∈ places r, 0 ≤ iterQ r (vQ fs) k x ∧ iterQ r (vQ fs) k x ≤ 1 := fun x hx => iter_unit hr vQ01 hx
      have hgood : ∀ t s', Good fs r k t s' ↔ if fs = true then iterQ r (vQ fs) k t < s' else s' < iterQ r (vQ fs) k t := fun t s' => by
        unfold Good
        cases fs <;> simp [vQ]
      generalize hf : iterQ r (vQ fs) k = f at *
      have zx := sz_maxL k1 fun x hx => zf x (k3 x hx)
      have zn := sz_minL k1 fun x hx => zf x (k3 x hx)
      have hmax1 : maxL l f ≤ 1 := by rw [← eb]; exact (hu b (k3 b hb)).2
      have hmin0 : 0 ≤ minL l f := by rw [← ea]; exact (hu a (k3 a ha)).1
      have hmm := min_max (f := f) k1
      obtain ⟨bid, hbid⟩ : ∃ bid, bid = (maxL l f - minL l f) / 2 := ⟨_, rfl⟩
      have zb : sz 66 bid := by rw [hbid]; exact sz_half (sz_sub2 zx zn)
      have bid0 : 0 ≤ bid := by rw [hbid]; grind
      have l23 : D.tup [.int 2, .int 3] = qd (mkRat 2 3) := qd_mk2 (by decide +kernel) (by decide +kernel)
      have z23 : sz 2 (mkRat 2 3) := by unfold sz; decide +kernel
      have h23 : mkRat 2 3 * bid = 2 / 3 * bid := by
        have : mkRat 2 3 = 2 / 3 := by decide +kernel
        rw [this]
      have g0 : ∀ t S, ixF (goalD f t) (.int 0) S = .ok (qd (f t)) S := fun t S => ixF_T0
      have g1 : ∀ t S, ixF (goalD f t) (.int 1) S = .ok (pd t) S := fun t S => ixF_T1
      have a1 : Φ.fn 2031 [qd (f b), qd (f a)] S = .ok (qd (maxL l f - minL l f)) S := by
        rw [ea, eb]
        exact hM 32 _ _ S (by decide) zx zn
      have a2 : Φ.fn 2025 [qd RF.hf, qd (maxL l f - minL l f)] S = .ok (qd bid) S := by
        rw [hbid]
        exact half_by hT (k := 65) (by decide) (by decide) (sz_sub2 zx zn)
      have a3 : Φ.fn 2031 [qd 1, qd s] S = .ok (qd (1 - s)) S := hM (zJ done.length) 1 s S (by omega) (sz_one (by omega)) zs
      obtain ⟨pu, hpu⟩ : ∃ pu, pu = (if fs = true then 1 - s else s) := ⟨_, rfl⟩
      have zpu : sz (zJ done.length + 2) pu := by
        rw [hpu]
        split
        · exact (sz_sub2 (sz_one (k := 1) (by decide)) zs).mono (by omega)
        · exact zs.mono (by omega)
      have pu0 : 0 ≤ pu := by rw [hpu]; split <;> grind
      have a4 : Φ.fn 2025 [qd RF.hf, qd pu] S = .ok (qd (pu / 2)) S := half_by hT (k := zJ done.length + 2) (by omega) (by omega) zpu
      have a5 : Φ.fn 2025 [qd (mkRat 2 3), qd bid] S = .ok (qd (mkRat 2 3 * bid)) S := hT 66 _ _ S (by decide) (z23.mono (by decide)) zb
      have ec : ∀ δ : En, δ[8]? = some (some (What.arr l).d) → denX Φ (.isi (.ix (.var 8) (.cst (.int 0))) .str) δ S = .ok (.bl true) S := fun δ h => by simp [h, es, isArr]
      rw [s_iff, ec _ rfl, bool_bl, go_ok]
      simp only [if_true]
      unfold pw_s
      refine run_ss (runB_cons ?_)
      simp [ek, e45]
      refine runB_cons ?_
      simp [lit12, g0, a1, a2]
      have t3 : ∀ δ : En, δ[6]? = some (some (sideD fs)) → δ[9]? = some (some (goalD f a)) → δ[10]? = some (some (goalD f b)) → denX Φ (.ite (.cmp .eq (.var 6) (.cst (.str "first"))) (.ix (.var 9) (.cst (.int 1))) (.ix (.var 10) (.cst (.int 1)))) δ S = .ok (pd (if fs = true then a else b)) S := fun δ y6 y9 y10 => by
        rw [r_ite, r_cmp, r_var, getV_run, y6]
        simp only [go_ok, r_cst, side_eq, bool_bl]
        cases fs <;> simp [y9, y10, g1]
      refine runB_cons ?_
      rw [s_asg, t3 _ rfl rfl rfl, go_ok]
      simp only [bT_nm, List.length_cons, List.length_nil, show (12 : Nat) < 0 + 1 + 1 + 1 + 1 + 1 + 1 + 1 + 1 + 1 + 1 + 1 + 1 + 1 + 1 + 1 + 1 + 1 + 1 from by decide, if_true, ofO_some, go_ok, List.set_cons_succ, List.set_cons_zero, run_ok, post_nx]
      have t4 : ∀ δ : En, δ[6]? = some (some (sideD fs)) → δ[4]? = some (some (qd s)) → denX Φ (.ite (.cmp .eq (.var 6) (.cst (.str "first"))) (.call 2031 [(.tup [(.cst (.int 1)), (.cst (.int 1))]), (.var 4)]) (.var 4)) δ S = .ok (qd pu) S := fun δ y6 y4 => by
        rw [r_ite, r_cmp, r_var, getV_run, y6]
        simp only [go_ok, r_cst, side_eq, bool_bl]
        rw [hpu]
        cases fs <;> simp [y4, lit1, a3]
      refine runB_cons ?_
      rw [s_asg, t4 _ rfl rfl, go_ok]
      simp only [bT_nm, List.length_cons, List.length_nil, show (13 : Nat) < 0 + 1 + 1 + 1 + 1 + 1 + 1 + 1 + 1 + 1 + 1 + 1 + 1 + 1 + 1 + 1 + 1 + 1 + 1 from by decide, if_true, ofO_some, go_ok, List.set_cons_succ, List.set_cons_zero, run_ok, post_nx]
      refine runB_cons ?_
      simp [lit0, lit12, l23, a4, a5]
      repeat (first | with_reducible refine run_nxt ?_ | with_reducible refine run_go ?_ | with_reducible refine run_bool ?_)
      refine (hP S m _ [qd 0, qd bid, qd (pu / 2), qd pu, qd (mkRat 2 3 * bid)] (.inl rfl) hS (by simp) (by simp)).mono ?_
      rintro _ S2 ⟨hd, m2⟩
      obtain ⟨o, rfl, zo, o0⟩ : ∃ o, _ = qd o ∧ sz (zJ done.length + 70) o ∧ 0 ≤ o := by
        simp only [List.mem_cons, List.not_mem_nil, or_false] at hd
        rcases hd with h | h | h | h | h
        · exact ⟨_, h, sz_zero (by omega), Rat.le_refl⟩
        · exact ⟨_, h, zb.mono (by omega), bid0⟩
        · exact ⟨_, h, (sz_half zpu).mono (by omega), by grind⟩
        · exact ⟨_, h, zpu.mono (by omega), pu0⟩
        · exact ⟨_, h, (sz_mul2 z23 zb).mono (by omega), by rw [h23]; grind⟩
      have b2 := hB (zJ done.length + 70) pu o S2 (by omega) (zpu.mono (by omega)) zo
      obtain ⟨p, hp, zp, pp0, ppu⟩ : ∃ p, (if pu < o then pu else o) = p ∧ sz (zJ done.length + 70) p ∧ 0 ≤ p ∧ p ≤ pu := by
        by_cases z : pu < o
        · exact ⟨pu, by rw [if_pos z], zpu.mono (by omega), pu0, Rat.le_refl⟩
        · exact ⟨o, by rw [if_neg z], zo, o0, Rat.not_lt.mp z⟩
      have key : RunB Φ fuel (pw_s.drop 6) [some (.obj m), some (webD r w), some (rowsD r), some (pd c), some (qd s), some (.int n), some (sideD fs), some ((.int ((n : Int) - x))), some ((What.arr l).d), some ((goalD f a)), some ((goalD f b)), some ((qd bid)), some ((pd (if fs = true then a else b))), some ((qd pu)), some ((qd p)), o15, o16, o17] S2 fun fl s' => match fl with
          | .nx δ' => I (done ++ [x]) δ' s'
          | .bk δ' => False
          | .rt v => False := by
        have cnd : ∀ o15 o16 o17, Run (denX Φ (.or [(.call 2023 [(.var 14), (.var 11)]), (.and [(.cmp .eq (.var 14) (.var 11)), (.cmp .eq (.call 2003 [(.var 0), (.cst (.int 2))]) (.cst (.int 0)))])]) [some (.obj m), some (webD r w), some (rowsD r), some (pd c), some (qd s), some (.int n), some (sideD fs), some ((.int ((n : Int) - x))), some ((What.arr l).d), some ((goalD f a)), some ((goalD f b)), some ((qd bid)), some ((pd (if fs = true then a else b))), some ((qd pu)), some ((qd p)), o15, o16, o17] S2) fun d S' => ∃ z : Bool, d = .bl z ∧ CupAt S' m ∧ (z = false → bid ≤ p) := fun o15 o16 o17 => by
          have b3 := hB (zJ done.length + 70) p bid S2 (by omega) zp (zb.mono (by omega))
          by_cases c1 : p < bid
          · simp [b3, c1]
            exact m2.1
          · have c4 := Rat.not_lt.mp c1
            by_cases c2 : p = bid
            · have c3 := c_eqQ (S := S2) (a := p) (b := bid)
              rw [decide_eq_true c2] at c3
              simp [b3, c1, c3]
              repeat (first | with_reducible refine run_nxt ?_ | with_reducible refine run_go ?_ | with_reducible refine run_bool ?_)
              refine (hS0 S2 m 2 m2.1 (by decide) (by decide)).mono ?_
              rintro _ S1 ⟨i, rfl, hi, m1'⟩
              have m2 := m1'.1
              by_cases h : i = 0 <;> simp [h, m2, c4]
            · simp [b3, c1, c_eqQ, c2]
              exact ⟨m2.1, c4⟩
        unfold pw_s
        simp only [List.drop_succ_cons, List.drop_zero]
        refine runB_cons ?_
        rw [s_asg]
        refine run_go ((cnd _ _ _).mono ?_)
        rintro _ S3 ⟨own, rfl, hS3, hown⟩
        simp only [bT_nm, List.length_cons, List.length_nil, show (15 : Nat) < 0 + 1 + 1 + 1 + 1 + 1 + 1 + 1 + 1 + 1 + 1 + 1 + 1 + 1 + 1 + 1 + 1 + 1 + 1 from by decide, if_true, ofO_some, go_ok, List.set_cons_succ, List.set_cons_zero, run_ok, post_nx]
        obtain ⟨ch, hch⟩ : ∃ ch, ch = (if own = true then bid else p) := ⟨_, rfl⟩
        have zch : sz (zJ done.length + 70) ch := by
          rw [hch]
          split
          · exact zb.mono (by omega)
          · exact zp
        have t8 : ∀ δ : En, δ[15]? = some (some (.bl own)) → δ[11]? = some (some (qd bid)) → δ[14]? = some (some (qd p)) → denX Φ (.ite (.var 15) (.var 11) (.var 14)) δ S3 = .ok (qd ch) S3 := fun δ y15 y11 y14 => by
          rw [hch]
          cases own <;> simp [y15, y11, y14]
        refine runB_cons ?_
        rw [s_asg, t8 _ rfl rfl rfl, go_ok]
        simp only [bT_nm, List.length_cons, List.length_nil, show (16 : Nat) < 0 + 1 + 1 + 1 + 1 + 1 + 1 + 1 + 1 + 1 + 1 + 1 + 1 + 1 + 1 + 1 + 1 + 1 + 1 from by decide, if_true, ofO_some, go_ok, List.set_cons_succ, List.set_cons_zero, run_ok, post_nx]
        have t9 : ∀ δ : En, δ[15]? = some (some (.bl own)) → δ[6]? = some (some (sideD fs)) → denX Φ (.cmp .eq (.var 15) (.cmp .eq (.var 6) (.cst (.str "first")))) δ S3 = .ok (.bl (own == fs)) S3 := fun δ y15 y6 => by
          rw [r_cmp, r_var, getV_run, y15]
          simp only [go_ok, r_cmp, r_var, getV_run, y6, r_cst, side_eq, c_eqBB]
        refine runB_cons ?_
        rw [s_asg, t9 _ rfl rfl, go_ok]
        simp only [bT_nm, List.length_cons, List.length_nil, show (17 : Nat) < 0 + 1 + 1 + 1 + 1 + 1 + 1 + 1 + 1 + 1 + 1 + 1 + 1 + 1 + 1 + 1 + 1 + 1 + 1 from by decide, if_true, ofO_some, go_ok, List.set_cons_succ, List.set_cons_zero, run_ok, post_nx]
        -- what follows once the place is known
        have fin : ∀ (u : Nat) (S4 : Sto), u ∈ l → CupAt S4 m → (own = true → u = if fs = true then a else b) → RunB Φ fuel (pw_s.drop 10) [some (.obj m), some (webD r w), some (rowsD r), some (pd u), some (qd s), some (.int n), some (sideD fs), some ((.int ((n : Int) - x))), some ((What.arr l).d), some ((goalD f a)), some ((goalD f b)), some ((qd bid)), some ((pd (if fs = true then a else b))), some ((qd pu)), some ((qd p)), some ((.bl own)), some ((qd ch)), some ((.bl (own == fs)))] S4 fun fl s' => match fl with
            | .nx δ' => I (done ++ [x]) δ' s'
            | .bk δ' => False
            | .rt v => False := by
          intro u S4 hu4 hS4 howu
          have h8 := minL_le (f := f) hu4
          have h9' := maxL_le (f := f) hu4
          obtain ⟨s', hs', zs', q0, q1, hgd⟩ : ∃ s', s' = (if (own == fs) = true then s - ch else s + ch) ∧ sz (zJ (done ++ [x]).length) s' ∧ 0 ≤ s' ∧ s' ≤ 1 ∧ Good fs r k u s' := by
            refine ⟨_, rfl, ?_, ?_⟩
            · rw [zsucc]
              split
              · exact (sz_sub2 zs zch).mono (by omega)
              · exact (sz_add2 zs zch).mono (by omega)
            rw [hgood]
            cases fs
            · cases own
              · have hb' := hown rfl
                have hch : ch = p := hch
                have hpu : pu = s := hpu
                have hle : s < (minL l f + maxL l f) / 2 := by simpa using hle
                simp only [hch, beq_self_eq_true, if_true, Bool.false_eq_true, if_false]
                rw [hpu] at ppu
                refine ⟨by grind, by grind, by grind⟩
              · have hch : ch = bid := hch
                have hu5 : u = b := by simpa using howu rfl
                have hle : s < (minL l f + maxL l f) / 2 := by simpa using hle
                rw [← hu5] at eb
                have e4 : (true == false) = false := rfl
                simp only [hch, e4, Bool.false_eq_true, if_false]
                refine ⟨by grind, by grind, by grind⟩
            · cases own
              · have hb' := hown rfl
                have hch : ch = p := hch
                have hpu : pu = 1 - s := hpu
                have hle : (minL l f + maxL l f) / 2 < s := by simpa using hle
                have e4 : (false == true) = false := rfl
                simp only [hch, e4, if_true, Bool.false_eq_true, if_false]
                rw [hpu] at ppu
                refine ⟨by grind, by grind, by grind⟩
              · have hch : ch = bid := hch
                have hu5 : u = a := by simpa using howu rfl
                have hle : (minL l f + maxL l f) / 2 < s := by simpa using hle
                rw [← hu5] at ea
                simp only [hch, beq_self_eq_true, if_true]
                refine ⟨by grind, by grind, by grind⟩
          have s1 := hM (zJ done.length + 70) s ch S4 (by omega) (zs.mono (by omega)) zch
          have s2 := hA (zJ done.length + 70) s ch S4 (by omega) (zs.mono (by omega)) zch
          have t11 : ∀ δ : En, δ[17]? = some (some (.bl (own == fs))) → δ[4]? = some (some (qd s)) → δ[16]? = some (some (qd ch)) → denX Φ (.ite (.var 17) (.call 2031 [(.var 4), (.var 16)]) (.call 2026 [(.var 4), (.var 16)])) δ S4 = .ok (qd s') S4 := fun δ y17 y4 y16 => by
            rw [hs']
            cases hh : (own == fs) <;> rw [hh] at y17 <;> simp [y17, y4, y16, s1, s2]
          have b5 := hB 7161 1 s' S4 (by decide) (sz_one (by decide)) (zs'.mono (zJ_le _ (by rw [hlen1]; omega)))
          have n5 : ¬ 1 < s' := Rat.not_lt.mpr q1
          have n6 : ¬ s'.num < 0 := by have := Rat.num_nonneg.mpr q0; omega
          unfold pw_s
          simp only [List.drop_succ_cons, List.drop_zero]
          refine runB_cons ?_
          rw [s_asg, t11 _ rfl rfl rfl, go_ok]
          simp only [bT_nm, List.length_cons, List.length_nil, show (4 : Nat) < 0 + 1 + 1 + 1 + 1 + 1 + 1 + 1 + 1 + 1 + 1 + 1 + 1 + 1 + 1 + 1 + 1 + 1 + 1 from by decide, if_true, ofO_some, go_ok, List.set_cons_succ, List.set_cons_zero, run_ok, post_nx]
          refine runB_cons ?_
          simp [lit1, b5, n5, n6]
          rw [hI]
          exact ⟨hS4, u, s', _, _, _, _, _, _, _, _, _, _, _, rfl, k3 u hu4, q0, q1, by rw [hk2]; exact hgd, zs'⟩
        refine runB_cons ?_
        cases own
        · have t10 : ∀ (δ : En) S, δ[0]? = some (some (.obj m)) → δ[8]? = some (some (What.arr l).d) → δ[6]? = some (some (sideD fs)) → δ[9]? = some (some (goalD f a)) → δ[10]? = some (some (goalD f b)) → denXs Φ [(.var 0), (.bin .add (.bi .list [(.var 8)]) (.lst [(.ite (.cmp .eq (.var 6) (.cst (.str "first"))) (.ix (.var 10) (.cst (.int 1))) (.ix (.var 9) (.cst (.int 1))))]))] δ S = .ok [.obj m, .lst ((l ++ [if fs = true then b else a]).map pd)] S := fun δ S y0 y8 y6 y9 y10 => by
            have tl : biD .list [(What.arr l).d] S = .ok (.lst (l.map pd)) S := rfl
            have ti : denX Φ (.ite (.cmp .eq (.var 6) (.cst (.str "first"))) (.ix (.var 10) (.cst (.int 1))) (.ix (.var 9) (.cst (.int 1)))) δ S = .ok (pd (if fs = true then b else a)) S := by
              rw [r_ite, r_cmp, r_var, getV_run, y6]
              simp only [go_ok, r_cst, side_eq, bool_bl]
              cases fs <;> simp [y9, y10, g1]
            have hl5 : l.length + 1 ≤ line := by simp [line]; omega
            rw [rs_cons, r_var, getV_run, y0]
            simp only [go_ok, rs_cons, r_bin, r_bi, r_lst, r_var, getV_run, y8, rs_nil, tl, ti, List.length_cons, List.length_nil, Nat.zero_add, show (1 : Nat) ≤ 1000 from by decide, if_true, b_addL, List.length_map, hl5, List.map_append, List.map_cons, List.map_nil]
          rw [s_asg, r_ite, r_var, getV_run]
          simp only [List.getElem?_cons_zero, List.getElem?_cons_succ, go_ok, bool_bl, Bool.false_eq_true, if_false, r_call]
          rw [t10 _ _ rfl rfl rfl rfl rfl, go_ok]
          refine run_go ((hP S3 m _ ((l ++ [if fs = true then b else a]).map pd) (.inl rfl) hS3 (by simp) (by rw [List.length_map, List.length_append]; simp; omega)).mono ?_)
          rintro _ S4 ⟨hd, m4⟩
          obtain ⟨u, hu4, rfl⟩ := List.mem_map.mp hd
          have hul : u ∈ l := by
            rcases List.mem_append.mp hu4 with h | h
            · exact h
            · have h : u = if fs = true then b else a := by simpa using h
              rw [h]
              split <;> assumption
          simp only [bT_nm, List.length_cons, List.length_nil, show (3 : Nat) < 0 + 1 + 1 + 1 + 1 + 1 + 1 + 1 + 1 + 1 + 1 + 1 + 1 + 1 + 1 + 1 + 1 + 1 + 1 from by decide, if_true, ofO_some, go_ok, List.set_cons_succ, List.set_cons_zero, run_ok, post_nx]
          exact fin u S4 hul m4.1 fun h => (Bool.false_ne_true h).elim
        · rw [s_asg, r_ite, r_var, getV_run]
          simp only [List.getElem?_cons_zero, List.getElem?_cons_succ, go_ok, bool_bl, if_true, r_var, getV_run, bT_nm, List.length_cons, List.length_nil, show (3 : Nat) < 0 + 1 + 1 + 1 + 1 + 1 + 1 + 1 + 1 + 1 + 1 + 1 + 1 + 1 + 1 + 1 + 1 + 1 + 1 from by decide, ofO_some, List.set_cons_succ, List.set_cons_zero, run_ok, post_nx]
          exact fin _ S3 (by split <;> assumption) hS3 fun _ => rfl
      refine .ok (post_nx.mpr (runB_cons ?_))
      have t6 : ∀ δ : En, δ[13]? = some (some (qd pu)) → δ[14]? = some (some (qd o)) → denX Φ (.ite (.call 2023 [(.var 13), (.var 14)]) (.var 13) (.var 14)) δ S2 = .ok (qd p) S2 := fun δ y13 y14 => by
        rw [← hp]
        by_cases z : pu < o <;> simp [y13, y14, b2, z]
      rw [s_asg, t6 _ rfl rfl, go_ok]
      simp only [bT_nm, List.length_cons, List.length_nil, show (14 : Nat) < 0 + 1 + 1 + 1 + 1 + 1 + 1 + 1 + 1 + 1 + 1 + 1 + 1 + 1 + 1 + 1 + 1 + 1 + 1 from by decide, if_true, ofO_some, go_ok, List.set_cons_succ, List.set_cons_zero, run_ok, post_nx]
      refine ⟨key.h.mono fun fl s' h => ?_⟩
      cases fl with
      | nx δ' => simpa using h
      | bk δ' => exact h.elim
      | rt v => exact h.elim
  · intro δ s' h
    rw [hI] at h
    obtain ⟨hS, c, s, o7, o8, o9, o10, o11, o12, o13, o14, o15, o16, o17, rfl, hc, p0, p1, hle, zs⟩ := h
    have hm := what_mem hr hc
    have ed := dict_rows (S := s') hr
    have ex := ixF_rows (S := s') hr hc
    have es := str_head (S := s') (N := Φ.nc) (hr.ne _ hm) (g := M.no)
    dsimp only at es
    rw [List.length_range', Nat.sub_self] at hle
    refine post_nx.mpr (runB_cons ?_)
    unfold pw_2
    simp [ed, ex]
    refine runB_cons ?_
    unfold pw_3
    cases ew : whatAt r c with
    | num v =>
      rw [ew] at es
      unfold Good at hle
      rw [iter_num ew, iter_num ew] at hle
      have hw := hr.what _ hm
      rw [ew] at hw
      have zv : sz 7161 v := (sz_unit hw.1.1 hw.1.2 hw.2).mono (by decide)
      have zs' : sz 7161 s := zs.mono (by rw [List.length_range']; exact zJ_le n hn)
      have b1 : Φ.fn 2023 [(What.num v).d, qd s] s' = .ok (.bl (decide (v < s))) s' := hB 7161 v s s' (by decide) zv zs'
      have b2 : Φ.fn 2023 [qd s, (What.num v).d] s' = .ok (.bl (decide (s < v))) s' := hB 7161 s v s' (by decide) zs' zv
      simp [es, isArr]
      refine runB_cons ?_
      unfold pw_4
      have t9 : ∀ δ : En, δ[6]? = some (some (sideD fs)) → δ[4]? = some (some (qd s)) → δ[8]? = some (some (What.num v).d) → denX Φ (.ite (.cmp .eq (.var 6) (.cst (.str "first"))) (.call 2023 [(.var 8), (.var 4)]) (.call 2023 [(.var 4), (.var 8)])) δ s' = .ok (.bl true) s' := fun δ y6 y4 y8 => by
        rw [r_ite, r_cmp, r_var, getV_run, y6]
        simp only [go_ok, r_cst, side_eq, bool_bl]
        cases fs
        · have hle : s < v := by simpa using hle
          simp [y4, y8, b2, hle]
        · have hle : v < s := by simpa using hle
          simp [y4, y8, b1, hle]
      rw [s_ret, t9 _ rfl rfl rfl, go_ok]
      refine .ok ?_
      show Q (.bl true) s'
      rw [hQ]
      exact ⟨rfl, hS⟩
    | arr l =>
      unfold Good at hle
      have e0 : iterQ r 1 0 c = 1 := begin_arr ew
      have e1 : iterQ r 0 0 c = 0 := begin_arr ew
      rw [e0, e1] at hle
      exfalso
      cases fs
      · have : s < 0 := by simpa using hle
        grind
      · have : 1 < s := by simpa using hle
        grind
theorem side_eq2 : cmpD .eq (sideD fs) (.str "second") S = .ok (.bl (!fs)) S := by
  cases fs
  · show Out.ok (D.bl (decide (("second" : Str) = "second"))) S = _
    rw [decide_eq_true rfl]
    rfl
  · show Out.ok (D.bl (decide (("first" : Str) = "second"))) S = _
    rw [decide_eq_false (by decide +kernel)]
    rfl
theorem right14_ok (hW : DrawsWeb (Φ.fn 2272)) (hP : PickOk (Φ.fn 2004)) (hS0 : SipOk (Φ.fn 2003)) (hT : AddOk (· * ·) (Φ.fn 2025)) (hA : AddOk (· + ·) (Φ.fn 2026)) (hB : BelowOk (Φ.fn 2023)) (h60 : WithinV 1 (Φ.fn 60)) (h61 : WithinV 0 (Φ.fn 61)) (hPl : PlayedS (Φ.fn 2046)) : RightC (h_law_right83 Φ) := by
  intro S m hS
  unfold h_law_right83 q_law_right83
  refine run_body (runB_cons ?_)
  unfold rw_1
  have i1 : itemsOf .range1 [.int 5] = some ((List.range' 0 5).map fun j : Nat => D.int (j : Int)) := items_rangeN (n := 5) (by decide)
  rw [s_for, rs_cons, r_cst, go_ok, rs_nil, go_ok, go_ok, i1, ofO_some, go_ok]
  obtain ⟨I, hI⟩ := hide fun (δ : En) (s : Sto) => ∃ o1 o2 o3 o4 o5 o6 o7 o8, δ = [some (.obj m), o1, o2, o3, o4, o5, o6, o7, o8] ∧ CupAt s m
  refine run_for1 I _ (by rw [hI]; exact ⟨_, _, _, _, _, _, _, _, rfl, hS⟩) ?_ ?_
  · intro x hx δ S h
    rw [hI] at h
    obtain ⟨o1, o2, o3, o4, o5, o6, o7, o8, rfl, hS⟩ := h
    refine run_fF rfl ?_
    unfold rw_b1
    refine runB_cons ?_
    unfold rw_b1_1
    simp
    repeat (first | with_reducible refine run_nxt ?_ | with_reducible refine run_go ?_ | with_reducible refine run_bool ?_)
    refine (hW S m 6 hS (by decide) (by decide)).mono ?_
    rintro _ S1 ⟨r, w, rfl, hr, h2, h6, h9, m1, _⟩
    simp
    have hlen := hr.len
    have hlr : biD .list [rowsD r] S1 = .ok (.lst (r.map rowD)) S1 := rfl
    refine runB_cons ?_
    unfold rw_b1_2
    simp [hlr]
    repeat (first | with_reducible refine run_nxt ?_ | with_reducible refine run_go ?_ | with_reducible refine run_bool ?_)
    refine (hP S1 m _ (r.map rowD) (.inl rfl) m1.1 (by
      intro e
      have := congrArg List.length e
      simp at this
      simp [this] at h2) (by rw [List.length_map]; omega)).mono ?_
    rintro _ S2 ⟨hd, m2⟩
    obtain ⟨p, hp, rfl⟩ := List.mem_map.mp hd
    have hc := mem_places hp
    have x0 : ∀ S, ixF (rowD p) (.int 0) S = .ok (pd p.1) S := fun S => ixF_T0
    obtain ⟨c, wt⟩ := p
    dsimp only at hc x0
    simp [x0]
    repeat (first | with_reducible refine run_nxt ?_ | with_reducible refine run_go ?_ | with_reducible refine run_bool ?_)
    refine (hS0 S2 m 6 m2.1 (by decide) (by decide)).mono ?_
    rintro _ S3 ⟨i, rfl, hi, m3⟩
    simp
    repeat (first | with_reducible refine run_nxt ?_ | with_reducible refine run_go ?_ | with_reducible refine run_bool ?_)
    refine (hP S3 m _ [.str "first", .str "second"] (.inl rfl) m3.1 (by simp) (by simp)).mono ?_
    rintro _ S4 ⟨hd4, m4⟩
    obtain ⟨fs, rfl⟩ : ∃ fs, _ = sideD fs := by
      simp only [List.mem_cons, List.not_mem_nil, or_false] at hd4
      rcases hd4 with h | h
      · exact ⟨true, h⟩
      · exact ⟨false, h⟩
    obtain ⟨n, hn⟩ : ∃ n, n = i + 1 := ⟨_, rfl⟩
    have en : (1 : Int) + i = (n : Int) := by omega
    simp [en]
    have e60 := h60 r w c n S4 hr hc (by omega)
    have e61 := h61 r w c n S4 hr hc (by omega)
    have zf := sz_iter9 hr h6 h9 (vQ01 (fs := fs)) (by omega : n ≤ 6) hc
    have hu := iter_unit (n := n) hr (vQ01 (fs := fs)) hc
    have pl := fun (s : Rat) (S : Sto) (hS : CupAt S m) (zs : sz 42 s) (a : 0 ≤ s) (b : s ≤ 1) (hs : if fs = true then iterQ r (vQ fs) n c < s else s < iterQ r (vQ fs) n c) => hPl S m r w c s n fs hS hr h6 h9 hc zs (by omega) a b (by
      unfold Good
      cases fs
      · exact hs
      · exact hs)
    have t3 : ∀ δ : En, δ[6]? = some (some (sideD fs)) → δ[2]? = some (some (webD r w)) → δ[4]? = some (some (pd c)) → δ[5]? = some (some (.int n)) → denX Φ (.ite (.cmp .eq (.var 6) (.cst (.str "first"))) (.call 60 [(.var 2), (.var 4), (.var 5)]) (.call 61 [(.var 2), (.var 4), (.var 5)])) δ S4 = .ok (qd (iterQ r (vQ fs) n c)) S4 := fun δ y6 y2 y4 y5 => by
      rw [r_ite, r_cmp, r_var, getV_run, y6]
      simp only [go_ok, r_cst, side_eq, bool_bl]
      cases fs <;> simp [y2, y4, y5, e60, e61, vQ]
    generalize iterQ r (vQ fs) n c = f at *
    refine runB_cons ?_
    unfold rw_b1_3
    rw [s_asg, t3 _ rfl rfl rfl rfl, go_ok]
    simp only [bT_nm, List.length_cons, List.length_nil, show (7 : Nat) < 0 + 1 + 1 + 1 + 1 + 1 + 1 + 1 + 1 + 1 from by decide, if_true, ofO_some, go_ok, List.set_cons_succ, List.set_cons_zero, run_ok, post_nx]
    have b1 := hB 32 f 1 S4 (by decide) zf (sz_one (by decide))
    have c4 : ∀ δ : En, δ[6]? = some (some (sideD fs)) → δ[7]? = some (some (qd f)) → denX Φ (.and [(.cmp .eq (.var 6) (.cst (.str "first"))), (.call 2023 [(.var 7), (.tup [(.cst (.int 1)), (.cst (.int 1))])])]) δ S4 = .ok (.bl (fs && decide (f < 1))) S4 := fun δ y6 y7 => by
      rw [r_and, and_cons, r_cmp, r_var, getV_run, y6]
      simp only [go_ok, r_cst, side_eq, bool_bl]
      cases fs
      · rfl
      · simp [y7, lit1, b1]
    have c5 : ∀ (δ : En) S, δ[6]? = some (some (sideD fs)) → δ[7]? = some (some (qd f)) → denX Φ (.and [(.cmp .eq (.var 6) (.cst (.str "second"))), (.cmp .gt (.ix (.var 7) (.cst (.int 0))) (.cst (.int 0)))]) δ S = .ok (.bl (!fs && decide (0 < f.num))) S := fun δ S y6 y7 => by
      rw [r_and, and_cons, r_cmp, r_var, getV_run, y6]
      simp only [go_ok, r_cst, side_eq2, bool_bl]
      cases fs
      · simp [y7]
      · rfl
    have l81 : D.tup [.int 8, .int 1] = qd 8 := qd_mk2 (by decide +kernel) (by decide +kernel)
    have l19 : D.tup [.int 1, .int 9] = qd (mkRat 1 9) := qd_mk2 (by decide +kernel) (by decide +kernel)
    have l89 : D.tup [.int 8, .int 9] = qd (mkRat 8 9) := qd_mk2 (by decide +kernel) (by decide +kernel)
    have z8 : sz 4 8 := by unfold sz; decide +kernel
    have z19 : sz 4 (mkRat 1 9) := by unfold sz; decide +kernel
    have z89 : sz 4 (mkRat 8 9) := by unfold sz; decide +kernel
    have e19 : mkRat 1 9 = 1 / 9 := by decide +kernel
    have e89 : mkRat 8 9 = 8 / 9 := by decide +kernel
    have one := sz_one (k := 1) (by decide)
    refine runB_cons ?_
    unfold rw_b1_4
    rw [s_iff, c4 _ rfl rfl, bool_bl, go_ok]
    by_cases z4 : (fs && decide (f < 1)) = true
    · rw [if_pos z4]
      obtain ⟨hfs, hf1⟩ := Bool.and_eq_true_iff.mp z4
      have hf1 := of_decide_eq_true hf1
      have a1 : Φ.fn 2026 [qd f, qd 1] S4 = .ok (qd (f + 1)) S4 := hA 32 f 1 S4 (by decide) zf (sz_one (by decide))
      have a2 : Φ.fn 2025 [qd RF.hf, qd (f + 1)] S4 = .ok (qd ((f + 1) / 2)) S4 := half_by hT (k := 34) (by decide) (by decide) (sz_add2 zf one)
      have a3 : Φ.fn 2025 [qd 8, qd f] S4 = .ok (qd (8 * f)) S4 := hT 32 8 f S4 (by decide) (z8.mono (by decide)) zf
      have a4 : Φ.fn 2026 [qd (8 * f), qd 1] S4 = .ok (qd (8 * f + 1)) S4 := hA 36 _ 1 S4 (by decide) (sz_mul2 z8 zf) (sz_one (by decide))
      have a5 : Φ.fn 2025 [qd (mkRat 1 9), qd (8 * f + 1)] S4 = .ok (qd (mkRat 1 9 * (8 * f + 1))) S4 := hT 38 _ _ S4 (by decide) (z19.mono (by decide)) (sz_add2 (sz_mul2 z8 zf) one)
      refine run_ss (runB_cons ?_)
      simp [lit1, lit12, l81, l19, a1, a2, a3, a4, a5]
      repeat (first | with_reducible refine run_nxt ?_ | with_reducible refine run_go ?_ | with_reducible refine run_bool ?_)
      refine (hP S4 m _ [qd 1, qd ((f + 1) / 2), qd (mkRat 1 9 * (8 * f + 1))] (.inl rfl) m4.1 (by simp) (by simp)).mono ?_
      rintro _ S5 ⟨hd5, m5⟩
      obtain ⟨s, rfl, zs, s0, s1, hs⟩ : ∃ s, _ = qd s ∧ sz 42 s ∧ 0 ≤ s ∧ s ≤ 1 ∧ f < s := by
        simp only [List.mem_cons, List.not_mem_nil, or_false] at hd5
        rcases hd5 with h | h | h
        · exact ⟨_, h, sz_one (by decide), by decide, by decide, hf1⟩
        · exact ⟨_, h, (sz_half (sz_add2 zf one)).mono (by decide), by grind, by grind, by grind⟩
        · exact ⟨_, h, (sz_mul2 z19 (sz_add2 (sz_mul2 z8 zf) one)).mono (by decide), by rw [e19]; grind, by rw [e19]; grind, by rw [e19]; grind⟩
      refine .ok (post_nx.mpr (runB_cons ?_))
      simp
      repeat (first | with_reducible refine run_nxt ?_ | with_reducible refine run_go ?_ | with_reducible refine run_bool ?_)
      refine (pl s S5 m5.1 zs s0 s1 (by rw [if_pos hfs]; exact hs)).mono ?_
      rintro _ S6 ⟨rfl, hS6⟩
      simp
      refine runB_cons ?_
      unfold rw_b1_5
      rw [s_iff, c5 _ _ rfl rfl, bool_bl, go_ok, hfs]
      simp
      rw [hI]
      exact ⟨_, _, _, _, _, _, _, _, rfl, hS6⟩
    · rw [if_neg z4]
      simp
      refine runB_cons ?_
      unfold rw_b1_5
      rw [s_iff, c5 _ _ rfl rfl, bool_bl, go_ok]
      by_cases z5 : (!fs && decide (0 < f.num)) = true
      · rw [if_pos z5]
        obtain ⟨hfs, hf1⟩ := Bool.and_eq_true_iff.mp z5
        have hfs : fs = false := by simpa using hfs
        have hf1 := of_decide_eq_true hf1
        have hf0 : 0 < f := by
          by_cases z : 0 < f
          · exact z
          · have : f = 0 := by have := hu.1; grind
            rw [this] at hf1
            exact absurd hf1 (by decide)
        have a2 : Φ.fn 2025 [qd RF.hf, qd f] S4 = .ok (qd (f / 2)) S4 := half_by hT (k := 32) (by decide) (by decide) zf
        have a3 : Φ.fn 2025 [qd (mkRat 8 9), qd f] S4 = .ok (qd (mkRat 8 9 * f)) S4 := hT 32 _ f S4 (by decide) (z89.mono (by decide)) zf
        refine run_ss (runB_cons ?_)
        simp [lit0, lit12, l89, a2, a3]
        repeat (first | with_reducible refine run_nxt ?_ | with_reducible refine run_go ?_ | with_reducible refine run_bool ?_)
        refine (hP S4 m _ [qd 0, qd (f / 2), qd (mkRat 8 9 * f)] (.inl rfl) m4.1 (by simp) (by simp)).mono ?_
        rintro _ S5 ⟨hd5, m5⟩
        obtain ⟨s, rfl, zs, s0, s1, hs⟩ : ∃ s, _ = qd s ∧ sz 42 s ∧ 0 ≤ s ∧ s ≤ 1 ∧ s < f := by
          simp only [List.mem_cons, List.not_mem_nil, or_false] at hd5
          rcases hd5 with h | h | h
          · exact ⟨_, h, sz_zero (by decide), by decide, by decide, hf0⟩
          · exact ⟨_, h, (sz_half zf).mono (by decide), by grind, by grind, by grind⟩
          · exact ⟨_, h, (sz_mul2 z89 zf).mono (by decide), by rw [e89]; grind, by rw [e89]; grind, by rw [e89]; grind⟩
        refine .ok (post_nx.mpr (runB_cons ?_))
        simp
        repeat (first | with_reducible refine run_nxt ?_ | with_reducible refine run_go ?_ | with_reducible refine run_bool ?_)
        refine (pl s S5 m5.1 zs s0 s1 (by rw [hfs]; exact hs)).mono ?_
        rintro _ S6 ⟨rfl, hS6⟩
        simp
        rw [hI]
        exact ⟨_, _, _, _, _, _, _, _, rfl, hS6⟩
      · rw [if_neg z5]
        simp
        rw [hI]
        exact ⟨_, _, _, _, _, _, _, _, rfl, m4.1⟩
  · intro δ s h
    rw [hI] at h
    obtain ⟨o1, o2, o3, o4, o5, o6, o7, o8, rfl, hS⟩ := h
    refine runB_cons ?_
    unfold rw_2
    simp
    rfl
theorem law14 (hU : CupBits (Φ.fn 2011)) (hR : RightC (Φ.fn 2282)) (ns : List Int) (h : ns.length ≤ 63) (hb : ∀ z ∈ ns, z.natAbs.log2 ≤ 1048576) :
    ∃ S, runB (denSs Φ fuel q_law_k14) 2 [.frz (ns.map D.int)] [] = .ok (.bl true) S := by
  suffices hh : Run (runB (denSs Φ fuel q_law_k14) 2 [.frz (ns.map D.int)] []) TrueQ by
    obtain ⟨d, S, e, rfl⟩ := hh.ex
    exact ⟨S, e⟩
  unfold q_law_k14
  refine run_body (runB_cons ?_)
  unfold l14_1
  rw [s_ret]
  refine run_go ((cups_all (K := 4) hR hU (by decide) (by decide) h hb rfl (by decide) (by simp)).mono ?_)
  rintro _ s rfl
  exact .ok rfl
end
end RF
end
set_option linter.all false
set_option maxRecDepth 100000
set_option maxHeartbeats 0
namespace RF.K14
open PySem PySem.Spec PyProof.Rows L2 RF
def top (i : Nat) : Stmt := PySem.Challenge.pw_biddingmoves_k14_whole_wins_within_moves.main.body.getD i (.Pass ⟨0, 0, 0, 0⟩)
def f_law_sip : Fd := ⟨"_law_sip", defArgs (top 62), defBody (top 62), defScope (top 62), ["cup", "top", "part"], 2, [], [], false, fuel, q_law_sip, "_law_sip", none⟩
def f_law_pick : Fd := ⟨"_law_pick", defArgs (top 63), defBody (top 63), defScope (top 63), ["cup", "things"], 2, [], [], false, fuel, q_law_pick, "_law_pick", none⟩
def f_law_low : Fd := ⟨"_law_low", defArgs (top 64), defBody (top 64), defScope (top 64), ["top", "bottom", "first", "last"], 2, [], [], false, fuel, q_law_low, "_law_low", none⟩
def f_law_part : Fd := ⟨"_law_part", defArgs (top 69), defBody (top 69), defScope (top 69), ["cup", "bottom"], 1, [], [], false, fuel, q_law_part, "_law_part", none⟩
def f_law_rows : Fd := ⟨"_law_rows", defArgs (top 70), defBody (top 70), defScope (top 70), ["cup", "most", "many", "letters", "start", "places_here", "ends", "found", "place", "home", "turn", "k", "what", "to"], 2, [7, 9], [7, 9], false, fuel, q_law_rows, "_law_rows", none⟩
def f_is_end : Fd := ⟨"is_end", defArgs (top 38), defBody (top 38), defScope (top 38), ["what"], 1, [], [], false, fuel, p_is_end, "is_end", none⟩
def f_text_of : Fd := ⟨"text_of", defArgs (top 42), defBody (top 42), defScope (top 42), ["rows", "lines", "place", "what"], 1, [1], [1], false, fuel, p_text_of, "text_of", none⟩
def f_is_ascending : Fd := ⟨"is_ascending", defArgs (top 36), defBody (top 36), defScope (top 36), ["value", "place"], 1, [], [], false, fuel, p_is_ascending, "is_ascending", none⟩
def f_lost_places : Fd := ⟨"lost_places", defArgs (top 40), defBody (top 40), defScope (top 40), ["rows", "home", "step", "place", "what", "to"], 1, [1], [1], false, fuel, p_lost_places, "lost_places", none⟩
def f_common : Fd := ⟨"common", defArgs (top 15), defBody (top 15), defScope (top 15), ["first", "last"], 2, [], [], false, fuel, p_common, "common", none⟩
def f_is_between : Fd := ⟨"is_between", defArgs (top 14), defBody (top 14), defScope (top 14), ["value", "least", "most"], 3, [], [], false, fuel, p_is_between, "is_between", none⟩
def f_is_fraction : Fd := ⟨"is_fraction", defArgs (top 17), defBody (top 17), defScope (top 17), ["value"], 1, [], [], false, fuel, p_is_fraction, "is_fraction", none⟩
def f_is_below : Fd := ⟨"is_below", defArgs (top 19), defBody (top 19), defScope (top 19), ["one", "other"], 2, [], [], false, fuel, p_is_below, "is_below", none⟩
def f_is_within : Fd := ⟨"is_within", defArgs (top 25), defBody (top 25), defScope (top 25), ["value", "low", "high"], 3, [], [], false, fuel, p_is_within, "is_within", none⟩
def f_is_share : Fd := ⟨"is_share", defArgs (top 26), defBody (top 26), defScope (top 26), ["value"], 1, [], [], false, fuel, p_is_share, "is_share", none⟩
def f_is_part : Fd := ⟨"is_part", defArgs (top 35), defBody (top 35), defScope (top 35), ["value"], 1, [], [], false, fuel, p_is_part, "is_part", none⟩
def f_is_letter : Fd := ⟨"is_letter", defArgs (top 34), defBody (top 34), defScope (top 34), ["value"], 1, [], [], false, fuel, p_is_letter, "is_letter", none⟩
def f_are_arrows : Fd := ⟨"are_arrows", defArgs (top 37), defBody (top 37), defScope (top 37), ["value", "part"], 1, [], [], false, fuel, p_are_arrows, "are_arrows", none⟩
def f_is_pair : Fd := ⟨"is_pair", defArgs (top 39), defBody (top 39), defScope (top 39), ["value"], 1, [], [], false, fuel, p_is_pair, "is_pair", none⟩
def f_are_rows : Fd := ⟨"are_rows", defArgs (top 41), defBody (top 41), defScope (top 41), ["value", "places", "place", "what", "pair", "to"], 1, [], [], false, fuel, p_are_rows, "are_rows", none⟩
def f_Web___init__ : Fd := ⟨"__init__", defArgs (memS (top 47) 0), defBody (memS (top 47) 0), defScope (memS (top 47) 0), ["self", "rows"], 2, [], [], false, fuel, p_Web___init__, "Web.__init__", (some (0, .init))⟩
def f_law_web : Fd := ⟨"_law_web", defArgs (top 71), defBody (top 71), defScope (top 71), ["cup", "most", "rows"], 2, [], [], false, fuel, q_law_web2, "_law_web", none⟩
def f_check_web : Fd := ⟨"check_web", defArgs (top 48), defBody (top 48), defScope (top 48), ["value"], 1, [], [], false, fuel, p_check_web, "check_web", none⟩
def f_Web_check_place : Fd := ⟨"check_place", defArgs (memS (top 47) 6), defBody (memS (top 47) 6), defScope (memS (top 47) 6), ["self", "place"], 2, [], [], false, fuel, p_Web_check_place, "Web.check_place", (some (0, .meth))⟩
def f_check_moves : Fd := ⟨"check_moves", defArgs (top 54), defBody (top 54), defScope (top 54), ["value"], 1, [], [], false, fuel, p_check_moves, "check_moves", none⟩
def f_ends_in : Fd := ⟨"ends_in", defArgs (top 50), defBody (top 50), defScope (top 50), ["rows", "place", "what"], 1, [], [], true, fuel, p_ends_in, "ends_in", none⟩
def f_begun : Fd := ⟨"begun", defArgs (top 55), defBody (top 55), defScope (top 55), ["rows", "number", "found", "place", "what"], 2, [2], [2], false, fuel, p_begun, "begun", none⟩
def f_lesser : Fd := ⟨"lesser", defArgs (top 20), defBody (top 20), defScope (top 20), ["one", "other"], 2, [], [], false, fuel, p_lesser, "lesser", none⟩
def f_least : Fd := ⟨"least", defArgs (top 23), defBody (top 23), defScope (top 23), ["some", "found", "one"], 1, [], [], false, fuel, p_least, "least", none⟩
def f_greater : Fd := ⟨"greater", defArgs (top 21), defBody (top 21), defScope (top 21), ["one", "other"], 2, [], [], false, fuel, p_greater, "greater", none⟩
def f_greatest : Fd := ⟨"greatest", defArgs (top 24), defBody (top 24), defScope (top 24), ["some", "found", "one"], 1, [], [], false, fuel, p_greatest, "greatest", none⟩
def f_ends_of : Fd := ⟨"ends_of", defArgs (top 51), defBody (top 51), defScope (top 51), ["what", "numbers", "some", "to"], 2, [], [], false, fuel, p_ends_of, "ends_of", none⟩
def f_lowest : Fd := ⟨"lowest", defArgs (top 16), defBody (top 16), defScope (top 16), ["top", "bottom", "shared"], 2, [], [], false, fuel, p_lowest, "lowest", none⟩
def f_half : Fd := ⟨"half", defArgs (top 22), defBody (top 22), defScope (top 22), ["one"], 1, [], [], false, fuel, p_half, "half", none⟩
def f_add : Fd := ⟨"add", defArgs (top 18), defBody (top 18), defScope (top 18), ["one", "other"], 2, [], [], false, fuel, p_add, "add", none⟩
def f_halved : Fd := ⟨"halved", defArgs (top 52), defBody (top 52), defScope (top 52), ["what", "numbers", "low", "high"], 2, [], [], false, fuel, p_halved, "halved", none⟩
def f_moved : Fd := ⟨"moved", defArgs (top 56), defBody (top 56), defScope (top 56), ["rows", "numbers", "place", "what"], 2, [], [], false, fuel, p_moved, "moved", none⟩
def f_numbers_within : Fd := ⟨"numbers_within", defArgs (top 57), defBody (top 57), defScope (top 57), ["rows", "moves", "number", "found", "turn"], 3, [], [], false, fuel, p_numbers_within, "numbers_within", none⟩
def f_Web_rows : Fd := ⟨"rows", defArgs (memS (top 47) 2), defBody (memS (top 47) 2), defScope (memS (top 47) 2), ["self"], 1, [], [], false, fuel, p_Web_rows, "Web.rows", (some (0, .prop))⟩
def f_need_within : Fd := ⟨"need_within", defArgs (top 58), defBody (top 58), defScope (top 58), ["web", "place", "moves"], 3, [], [], false, fuel, p_need_within, "need_within", none⟩
def f_hold_within : Fd := ⟨"hold_within", defArgs (top 59), defBody (top 59), defScope (top 59), ["web", "place", "moves"], 3, [], [], false, fuel, p_hold_within, "hold_within", none⟩
def f_law_under : Fd := ⟨"_law_under", defArgs (top 68), defBody (top 68), defScope (top 68), ["one", "two"], 2, [], [], false, fuel, q_law_under, "_law_under", none⟩
def f_law_ends_by : Fd := ⟨"_law_ends_by", defArgs (top 72), defBody (top 72), defScope (top 72), ["web", "what", "many", "side", "found", "low", "high", "pair", "to"], 4, [], [], false, fuel, q_law_ends_by, "_law_ends_by", none⟩
def f_law_by : Fd := ⟨"_law_by", defArgs (top 67), defBody (top 67), defScope (top 67), ["one", "two"], 2, [], [], false, fuel, q_law_by, "_law_by", none⟩
def f_law_plus : Fd := ⟨"_law_plus", defArgs (top 65), defBody (top 65), defScope (top 65), ["one", "two"], 2, [], [], false, fuel, q_law_plus, "_law_plus", none⟩
def f_law_minus : Fd := ⟨"_law_minus", defArgs (top 66), defBody (top 66), defScope (top 66), ["one", "two"], 2, [], [], false, fuel, q_law_minus, "_law_minus", none⟩
def f_law_played : Fd := ⟨"_law_played", defArgs (top 73), defBody (top 73), defScope (top 73), ["cup", "web", "rows", "place", "share", "many", "side", "left", "what", "low", "high", "bid", "to", "other_purse", "other", "own_pays", "change", "first_pays"], 7, [], [], false, fuel, q_law_played, "_law_played", none⟩
def f_law_right : Fd := ⟨"_law_right", defArgs (top 74), defBody (top 74), defScope (top 74), ["cup", "turn", "web", "rows", "place", "many", "side", "edge", "share"], 1, [], [], false, fuel, q_law_right83, "_law_right", none⟩
def f_law_cup : Fd := ⟨"_law_cup", defArgs (top 61), defBody (top 61), defScope (top 61), ["script", "spot", "cell", "one"], 2, [], [], true, fuel, q_law_cup, "_law_cup", none⟩
def f_law_b : List S := [(.ret (some (.bi .all [(.comp (.call 2282 [(.mkx (.call 2011 [(.var 0), (.var 1)]))]) (.nm 1) .range1 [(.bi .max [(.cst (.int 2)), (.bi .min [(.bi .len [(.var 0)]), (.cst (.int 4))])])] [] [1])])))]
def f_law : Fd := ⟨"law", defArgs (top 75), defBody (top 75), defScope (top 75), ["script", "spot"], 1, [], [], false, fuel, f_law_b, "law", none⟩
def LL : List (Nat × Fd) := [(2011, f_law_cup), (2282, f_law_right), (2046, f_law_played), (2031, f_law_minus), (2026, f_law_plus), (2025, f_law_by), (2045, f_law_ends_by), (2023, f_law_under), (61, f_hold_within), (60, f_need_within), (502, f_Web_rows), (59, f_numbers_within), (58, f_moved), (55, f_halved), (5, f_add), (12, f_half), (3, f_lowest), (48, f_ends_of), (14, f_greatest), (11, f_greater), (13, f_least), (10, f_lesser), (57, f_begun), (38, f_ends_in), (56, f_check_moves), (506, f_Web_check_place), (30, f_check_web), (2272, f_law_web), (500, f_Web___init__), (24, f_are_rows), (22, f_is_pair), (20, f_are_arrows), (17, f_is_letter), (18, f_is_part), (16, f_is_share), (15, f_is_within), (9, f_is_below), (4, f_is_fraction), (0, f_is_between), (2, f_common), (23, f_lost_places), (19, f_is_ascending), (25, f_text_of), (21, f_is_end), (2007, f_law_rows), (2006, f_law_part), (2005, f_law_low), (2004, f_law_pick), (2003, f_law_sip)]
def ld : LawD := ⟨(1000, f_law) :: LL, [(0, "ZERO", (.tup [(.int 0), (.int 1)])), (1, "ONE", (.tup [(.int 1), (.int 1)])), (2, "MOST_PLACES", (.int 10)), (3, "MOST_MOVES", (.int 60)), (4, "MOST_BOTTOM", (.int 1000000000000)), (7, "LETTERS", (.str "abcdefghijklmnopqrstuvwxyz"))], [], ["abs", "all", "any", "bool", "dict", "divmod", "int", "isinstance", "len", "list", "max", "min", "range", "set", "sorted", "str", "tuple"], [.bool, .cls 0, .int, .str, .tuple], [("Web", ["all_rows", "words", "by_place"])]⟩
theorem okL : ld.ok = true := by kernel_rfl
theorem t_law_sip : SipOk (h_law_sip (phi ld.B (LL.drop 49))) := sip_ok
theorem t_law_pick : PickOk (h_law_pick (phi ld.B (LL.drop 48))) := pick_ok t_law_sip
theorem t_law_low : LowestOk (h_law_low (phi ld.B (LL.drop 47))) := low_ok
theorem t_law_part : DrawsPart2 (h_law_part (phi ld.B (LL.drop 46))) := cpart_ok t_law_sip t_law_pick t_law_low
theorem t_law_rows : DrawsRows (h_law_rows (phi ld.B (LL.drop 45))) := rows_law_ok t_law_sip t_law_pick t_law_part
theorem t_is_end : EndOk (g_is_end (phi ld.B (LL.drop 44))) := ⟨fun q S => end_num, fun c l S => end_arr⟩
theorem t_text_of : TextOk (g_text_of (phi ld.B (LL.drop 43))) := text_ok t_is_end
theorem t_is_ascending : AscOk (g_is_ascending (phi ld.B (LL.drop 42))) := ⟨fun l S h => asc_L h, fun l S h => asc_T h⟩
theorem t_lost_places : LostOk (g_lost_places (phi ld.B (LL.drop 41))) := fun r S h1 h2 h3 => lost_ok t_is_end h1 h2 h3
theorem t_common : CommonOk (g_common (phi ld.B (LL.drop 40))) := fun t b S h => common_ok _ t b S h
theorem t_is_between : BetweenOk (g_is_between (phi ld.B (LL.drop 39))) := fun v lo hi S hv => between_ok hv lo hi
theorem t_is_fraction : FractionOk (g_is_fraction (phi ld.B (LL.drop 38))) := fun d S h => fraction_ok t_is_between t_common h
theorem t_is_below : BelowOk (g_is_below (phi ld.B (LL.drop 37))) := fun k a b S hk ha hb => below_ok hk ha hb
theorem t_is_within : WithinOk (g_is_within (phi ld.B (LL.drop 36))) := ⟨fun k q lo hi S hk hq hl hh => within_qd t_is_fraction t_is_below hk hq hl hh, fun d x y S h hn => within_no t_is_fraction h hn⟩
theorem t_is_share : ShareOk (g_is_share (phi ld.B (LL.drop 35))) := ⟨fun k q S hk hq => share_qd t_is_within rfl rfl hk hq, fun d S hp hn => share_no t_is_within hp hn⟩
theorem t_is_part : PartOk (g_is_part (phi ld.B (LL.drop 34))) := ⟨fun k q S hk hq => part_qd t_is_share rfl hk hq, fun l S => part_arr t_is_share⟩
theorem t_is_letter : LetterOk (g_is_letter (phi ld.B (LL.drop 33))) := fun c S => letter_ok rfl
theorem t_are_arrows : ArrowsOk (g_are_arrows (phi ld.B (LL.drop 32))) := fun l S hl h0 => arrows_ok t_is_letter t_is_ascending hl h0
theorem t_is_pair : PairOk (g_is_pair (phi ld.B (LL.drop 31))) := fun p S h1 h2 => pair_ok (c := p.1) (w := p.2) t_is_letter t_is_part t_are_arrows h1 h2
theorem t_are_rows : RowsOkF (g_are_rows (phi ld.B (LL.drop 30))) := fun r S h => rows_ok rfl t_is_pair t_is_ascending t_is_end t_lost_places h
theorem t_Web___init__ : InitF (g_Web___init__ (phi ld.B (LL.drop 29))) := init_ok t_are_rows t_text_of
theorem t_law_web2 : DrawsWeb (h_law_web2 (phi ld.B (LL.drop 28))) := web_law_ok t_law_rows t_Web___init__
theorem t_check_web : CheckWebOk (g_check_web (phi ld.B (LL.drop 27))) := checkWeb_ok (by decide)
theorem t_Web_check_place : CheckPlaceOk (g_Web_check_place (phi ld.B (LL.drop 26))) := checkPlace_ok
theorem t_check_moves : CheckMovesOk (g_check_moves (phi ld.B (LL.drop 25))) := checkMoves_ok t_is_between rfl
theorem t_ends_in : EndsInOk (g_ends_in (phi ld.B (LL.drop 24))) := endsIn_ok t_is_end
theorem t_begun : BegunOk (g_begun (phi ld.B (LL.drop 23))) := begun_ok t_is_end t_ends_in
theorem t_lesser : LesserOk minQ (g_lesser (phi ld.B (LL.drop 22))) := fun k a b S hk ha hb => lesser_ok t_is_below hk ha hb
theorem t_least : LeastOk minL (g_least (phi ld.B (LL.drop 21))) := least_L t_lesser
theorem t_greater : LesserOk maxQ (g_greater (phi ld.B (LL.drop 20))) := fun k a b S hk ha hb => greater_ok t_is_below hk ha hb
theorem t_greatest : LeastOk maxL (g_greatest (phi ld.B (LL.drop 19))) := greatest_L t_greater
theorem t_ends_of : EndsOfOk (g_ends_of (phi ld.B (LL.drop 18))) := ends_ok t_least t_greatest
theorem t_lowest : LowestOk (g_lowest (phi ld.B (LL.drop 17))) := lowest_ok t_common
theorem t_half : HalfOk (g_half (phi ld.B (LL.drop 16))) := fun k a S hk ha => half_ok t_lowest hk ha
theorem t_add : AddOk (· + ·) (g_add (phi ld.B (LL.drop 15))) := fun k a b S hk ha hb => add_ok t_lowest hk ha hb
theorem t_halved : HalvedOk (g_halved (phi ld.B (LL.drop 14))) := halved_ok t_ends_of t_add t_half
theorem t_moved : MovedOk (g_moved (phi ld.B (LL.drop 13))) := moved_ok t_is_end t_halved
theorem t_numbers_within : NumsWithin (g_numbers_within (phi ld.B (LL.drop 12))) := numsWithin_ok t_begun t_moved
theorem t_Web_rows : WebRowsOk (g_Web_rows (phi ld.B (LL.drop 11))) := webRows_ok
theorem t_need_within : WithinV 1 (g_need_within (phi ld.B (LL.drop 10))) := needWithin_ok t_check_web t_Web_check_place t_check_moves t_numbers_within t_Web_rows rfl
theorem t_hold_within : WithinV 0 (g_hold_within (phi ld.B (LL.drop 9))) := holdWithin_ok t_check_web t_Web_check_place t_check_moves t_numbers_within t_Web_rows rfl
theorem t_law_under : BelowOk (h_law_under (phi ld.B (LL.drop 8))) := under_ok
theorem t_law_ends_by : EndsBy (h_law_ends_by (phi ld.B (LL.drop 7))) := endsBy_ok t_need_within t_hold_within t_law_under
theorem t_law_by : AddOk (· * ·) (h_law_by (phi ld.B (LL.drop 6))) := by_ok t_law_low
theorem t_law_plus : AddOk (· + ·) (h_law_plus (phi ld.B (LL.drop 5))) := plus_ok t_law_low
theorem t_law_minus : AddOk (· - ·) (h_law_minus (phi ld.B (LL.drop 4))) := minus_ok t_law_plus
theorem t_law_played : PlayedS (h_law_played (phi ld.B (LL.drop 3))) := playedS_ok t_law_ends_by t_law_pick t_law_sip t_law_by t_law_plus t_law_minus t_law_under
theorem t_law_right83 : RightC (h_law_right83 (phi ld.B (LL.drop 2))) := right14_ok t_law_web2 t_law_pick t_law_sip t_law_by t_law_plus t_law_under t_need_within t_hold_within t_law_played
theorem t_law_cup : CupBits (h_law_cup (phi ld.B (LL.drop 1))) := cup_ok
theorem law_true (ns : List Int) (h : ns.length ≤ 63) (hb : ∀ z ∈ ns, z.natAbs.log2 ≤ 1048576) : ∃ S, f_law.run (phi ld.B LL) [.frz (ns.map D.int)] [] = .ok (.bl true) S := law14 t_law_cup t_law_right83 ns h hb
/-! ### the head -/
abbrev R : PySem.W.OpenRow := PySem.W.OpenLaw.row PySem.Challenge.rw_biddingmoves_k14_whole_wins_within_moves
abbrev hk : PySem.W.Hook := hookR 5 ld
def ob (s : PySem.W.SharedT) : AlR := obR 5 ld s
def loose : List PySem.Str := (["_wall", "__name__", "WrongValue", "InvalidRows", "InvalidText", "InvalidNumber", "NotAWeb", "WrongName", "UnknownPlace", "NoAnswer", "NotAnEnd", "ZERO"] : List Str) ++ (["ONE", "is_between", "common", "lowest", "is_fraction", "add", "is_below", "lesser", "greater", "half", "least", "greatest"] : List Str) ++ (["is_within", "is_share", "MOST_PLACES", "MOST_MOVES", "MOST_BOTTOM", "LETTERS", "DIGITS", "MOST_DIGITS", "is_letter", "is_part", "is_ascending", "are_arrows"] : List Str) ++ (["is_end", "is_pair", "lost_places", "are_rows", "text_of", "natural_in", "fraction_in", "pair_in", "rows_in", "Web", "check_web", "ends_in"] : List Str) ++ (["ends_of", "halved", "check_moves", "begun", "moved", "numbers_within", "need_within", "hold_within", "_law_cup", "_law_sip", "_law_pick", "_law_low"] : List Str) ++ (["_law_plus", "_law_minus", "_law_by", "_law_under", "_law_part", "_law_rows", "_law_web", "_law_ends_by", "_law_played", "_law_right"] : List Str)
noncomputable def headE (w : World) (os : OsState) : Option PySem.W.SharedT := HandSHeadRun.endF (HandSHeadRun.stepQ (HandSHeadRun.denQ HandSHeadRun.tabQ) R.prog w) 20000 R.prog w os
noncomputable def headX (w : World) (s : PySem.W.SharedT) : Bool := HandSHeadRun.looksF R.prog (PySem.W.boot_heap w.params) s.abs
noncomputable def headY (s : PySem.W.SharedT) := HandSHeadRun.seenQ (PySem.W.view R.prog [75]) loose (PySem.importedModules R.prog.main.body) (fun s => PySem.W.xlAt (PySem.W.view R.prog [75]) [] s && PySem.W.recOk R.records s) s.abs
theorem hx_f (w : World) (os : OsState) : (headE (w.withFollow "special-get-raises" false) os).map (fun s => headX (w.withFollow "special-get-raises" false) s) = some true := by kernel_rfl
theorem hy_f (w : World) (os : OsState) : (headE (w.withFollow "special-get-raises" false) os).map (fun s => headY s) = some (PySem.W.openGood (PySem.W.view R.prog [75]) loose) := by kernel_rfl
theorem h_f (w : World) (os : OsState) : (headE (w.withFollow "special-get-raises" false) os).map (fun s => (headX (w.withFollow "special-get-raises" false) s, headY s)) = some (true, PySem.W.openGood (PySem.W.view R.prog [75]) loose) := by
  have h1 := hx_f w os
  have h2 := hy_f w os
  cases z : headE (w.withFollow "special-get-raises" false) os with
  | none => rw [z] at h1; cases h1
  | some s =>
    rw [z] at h1 h2
    simp only [Option.map_some, Option.some.injEq] at h1 h2 ⊢
    rw [h1, h2]
theorem h0_f (w : World) (os : OsState) : (headE (w.withFollow "special-get-raises" false) os).map (ld.see 5 0) = some (ld.vals 0) := by kernel_rfl
theorem h1_f (w : World) (os : OsState) : (headE (w.withFollow "special-get-raises" false) os).map (ld.see 5 1) = some (ld.vals 1) := by kernel_rfl
theorem h2_f (w : World) (os : OsState) : (headE (w.withFollow "special-get-raises" false) os).map (ld.see 5 2) = some (ld.vals 2) := by kernel_rfl
theorem h3_f (w : World) (os : OsState) : (headE (w.withFollow "special-get-raises" false) os).map (ld.see 5 3) = some (ld.vals 3) := by kernel_rfl
theorem h4_f (w : World) (os : OsState) : (headE (w.withFollow "special-get-raises" false) os).map (ld.see 5 4) = some (ld.vals 4) := by kernel_rfl
theorem hr_f (w : World) (os : OsState) : (headE (w.withFollow "special-get-raises" false) os).map (ld.see2 5) = some (ld.vals2 (w.withFollow "special-get-raises" false)) := by kernel_rfl
theorem run_f (w : World) : HandSHeadRun.RunEq R (PySem.W.view R.prog [75]) hk ob 20000 loose (w.withFollow "special-get-raises" false) := fun os => of_parts (l := ld) (n := 5) (w := (w.withFollow "special-get-raises" false)) (e := headE (w.withFollow "special-get-raises" false) os) (X := headX (w.withFollow "special-get-raises" false)) (Y := headY) (h_f w os) (h0_f w os) (h1_f w os) (h2_f w os) (h3_f w os) (h4_f w os) (hr_f w os)
theorem hx_t (w : World) (os : OsState) : (headE (w.withFollow "special-get-raises" true) os).map (fun s => headX (w.withFollow "special-get-raises" true) s) = some true := by kernel_rfl
theorem hy_t (w : World) (os : OsState) : (headE (w.withFollow "special-get-raises" true) os).map (fun s => headY s) = some (PySem.W.openGood (PySem.W.view R.prog [75]) loose) := by kernel_rfl
theorem h_t (w : World) (os : OsState) : (headE (w.withFollow "special-get-raises" true) os).map (fun s => (headX (w.withFollow "special-get-raises" true) s, headY s)) = some (true, PySem.W.openGood (PySem.W.view R.prog [75]) loose) := by
  have h1 := hx_t w os
  have h2 := hy_t w os
  cases z : headE (w.withFollow "special-get-raises" true) os with
  | none => rw [z] at h1; cases h1
  | some s =>
    rw [z] at h1 h2
    simp only [Option.map_some, Option.some.injEq] at h1 h2 ⊢
    rw [h1, h2]
theorem h0_t (w : World) (os : OsState) : (headE (w.withFollow "special-get-raises" true) os).map (ld.see 5 0) = some (ld.vals 0) := by kernel_rfl
theorem h1_t (w : World) (os : OsState) : (headE (w.withFollow "special-get-raises" true) os).map (ld.see 5 1) = some (ld.vals 1) := by kernel_rfl
theorem h2_t (w : World) (os : OsState) : (headE (w.withFollow "special-get-raises" true) os).map (ld.see 5 2) = some (ld.vals 2) := by kernel_rfl
theorem h3_t (w : World) (os : OsState) : (headE (w.withFollow "special-get-raises" true) os).map (ld.see 5 3) = some (ld.vals 3) := by kernel_rfl
theorem h4_t (w : World) (os : OsState) : (headE (w.withFollow "special-get-raises" true) os).map (ld.see 5 4) = some (ld.vals 4) := by kernel_rfl
theorem hr_t (w : World) (os : OsState) : (headE (w.withFollow "special-get-raises" true) os).map (ld.see2 5) = some (ld.vals2 (w.withFollow "special-get-raises" true)) := by kernel_rfl
theorem run_t (w : World) : HandSHeadRun.RunEq R (PySem.W.view R.prog [75]) hk ob 20000 loose (w.withFollow "special-get-raises" true) := fun os => of_parts (l := ld) (n := 5) (w := (w.withFollow "special-get-raises" true)) (e := headE (w.withFollow "special-get-raises" true) os) (X := headX (w.withFollow "special-get-raises" true)) (Y := headY) (h_t w os) (h0_t w os) (h1_t w os) (h2_t w os) (h3_t w os) (h4_t w os) (hr_t w os)
theorem run (w : World) : HandSHeadRun.RunEq R (PySem.W.view R.prog [75]) hk ob 20000 loose w :=
  PySem.W.byRow2 "special-get-raises" (P := fun w => HandSHeadRun.RunEq R (PySem.W.view R.prog [75]) hk ob 20000 loose w) run_f run_t w
end RF.K14
open PySem PySem.W PySem.Calls PyProof.Rows
theorem PySem.Challenge.cw_biddingmoves_k14_whole_wins_within_moves_holds : PySem.Challenge.rw_biddingmoves_k14_whole_wins_within_moves.Holds := by
  w_on; o_law
  refine HandSHeadRun.head_any (q := view RF.K14.R.prog [75]) (H := RF.K14.hk) (ob := RF.K14.ob) (M := 20000) (loose := RF.K14.loose) (d := HandSHeadRun.topDef RF.K14.R.prog 75) (kwd := []) (fun s => RF.obR_eq s)
    (by kernel_rfl) (fun s => by kernel_rfl) RF.K14.run (by kernel_rfl) (by kernel_rfl) (by kernel_rfl) (by rfl) (by first | assumption | decide +kernel) (by decide +kernel) ⟨rfl, rfl, rfl, rfl, rfl, by decide +kernel⟩ ?hw ?hc
  case hw => w_witness2
  case hc =>
    exact RF.law_walk (l := PySem.Challenge.rw_biddingmoves_k14_whole_wins_within_moves) (n := 63) (ld := RF.K14.ld) (dl := RF.K14.f_law) (sx := "script") rfl (by decide) (by kernel_rfl) rfl RF.K14.okL rfl rfl rfl rfl (by kernel_rfl) ⟨rfl, by decide +kernel, by decide +kernel⟩ RF.K14.law_true
