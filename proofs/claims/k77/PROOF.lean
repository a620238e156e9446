import PyProof.Rows.All
import PyProof.P3Eq
import KE.KEqDict
import HandS.TupAny
import HandS.FStr
import HandS.IsInst
import HandS.ForMost
import HandS.Walk
import HandS.Wide
import HandS.Zip0
import HandS.TupMul
import PyProof.Draws
import PyProof.EnumMake
import KE.KDictPairs
import PyProof.ReprReads
import HandS.Text
import HandS.Small
import HandS.Style
import HandS.Strs
import HandS.Set
import HandS.More
import HandS.Defaults
import HandS.Ends
import HandS.HeadEnd
import HandS.HeadHook2
import HandS.Head0
import HandS.Head1
import HandS.Head2
import HandS.HeadHook1
import HandS.HeadHook3
import KE.KStateDown
import PySem.Challenge.RW_biddingmoves_k77_claims_that_are_none
set_option Elab.async false
section
set_option linter.all false
set_option maxRecDepth 100000
set_option maxHeartbeats 4000000
set_option autoImplicit false
/-! RfTup: tuples that are known to their object: no dict of their own. What makes tuples, once more; dict of a tuple. -/
namespace RF
open PySem PySem.Spec L2
open PyProof.Rows hiding St
def tupO (us : List Value) : Obj := { cls := .type "tuple", data := .seq us.toArray }
def TupP (H : Hp) (a : Addr) (xs : List V) : Prop := ∃ o, H a = some (.frz o (.tup xs)) ∧ o.dict = none
def PTu (K : PySem.W.Frag) (H : Hp) (a : Addr) (xs : List V) : Prop :=
  TupP H a xs ∨ ∃ (o : Obj) (us : Array Value) (n : Nat), K.lookup a = some o ∧ o.cls = .type "tuple" ∧ o.dict = none ∧ o.data = .seq us n ∧ us.size ≤ sizeLine ∧ Vals xs us.toList
theorem PTu.sqT {K : PySem.W.Frag} {H : Hp} {a : Addr} {xs : List V} (h : PTu K H a xs) : SqT K H a xs := by
  rcases h with ⟨o, h, _⟩ | ⟨o, us, n, h1, h2, _, h3, h4, h5⟩
  · exact .inl (.inr ⟨o, h⟩)
  · exact .inr ⟨o, us, n, h1, h2, h3, h4, h5⟩
/-- a new tuple -/
def NewTup (H : Hp) (Q : VK) (xs : List V) : Prop := ∀ p o, H p = none → o.dict = none → Q (.ref p) (L2.upd H p (.frz o (.tup xs)))
section
variable {X : Cx} {pins : List (Addr × Obj)} {σ : L2.St} {H : Hp} {s : Shared} {Q : VK} {xs : List V} {us : List Value} {h1 : Heap} {tk : Tok}
theorem Inv.newTup (I : Inv X pins σ H s) (hz : xs.length ≤ sizeLine) (r : Vals xs us) (k : ∀ b u, s.heap.get? b = some u → h1.get? b = some u) {p : Addr} (hp : s.heap.objs.size ≤ p) (e : h1.get? p = some (tupO us)) (q : NewTup H Q xs) : EP X pins σ Q (.ref p) { s with heap := h1, toks := tk } := by
  refine ⟨.ref p, L2.upd H p (.frz (tupO us) (.tup xs)), I.laid k hp ?_, rfl, q _ _ (I.hok.fresh hp) rfl⟩
  exact ⟨e, hz, us, r, _, e, rfl, 0, rfl⟩
theorem pe_tupF {es : List Expr} {t : TA} {x1 : Nat} {pos : Pos} (h : PA X es t) : PE X (.Tuple es x1 pos) (fun σ H Q => t σ H fun xs H1 => xs.length ≤ sizeLine ∧ NewTup H1 Q xs) := by
  refine ⟨fun pins s σ H Q I hq => wpAny_Tuple_spliced (thn (h.run pos pins s σ H _ I hq) fun us s1 ⟨xs, H1, I1, r, z, q⟩ => ⟨by rw [← r.length]; exact z, ?_⟩)⟩
  exact Inv.newTup (tk := s1.toks) I1 z r (fun b u e => Heap.get?_push_of_some _ e) (Nat.le_refl _) (Heap.get?_push_size _ rfl) q
theorem call_tupF : CallR X (.type "tuple") (fun xs H Q => ∃ p ys, xs = [.ref p] ∧ ((SqL X.K H p ys ∧ NewTup H Q ys) ∨ (SqT X.K H p ys ∧ Q (.ref p) H))) := by
  intro pins s σ H xs us Q I r ⟨p, ys, e, z⟩
  subst e
  rcases z with ⟨hq, q⟩ | ⟨hq, q⟩
  · obtain ⟨u, rfl, rx⟩ := vals1 r
    cases rx
    obtain ⟨its, r1, pl, hz⟩ := I.list hq
    have hlen := r1.length
    refine call_tuple_list pl.isList (fun h2 kp => ?_) (by simp only [List.size_toArray] <;> omega)
    have I1 : Inv X pins σ H { s with heap := h2 } := I.kept (t' := s.toks) kp
    exact Inv.newTup (tk := s.toks) I1 hz r1 (fun b u e => Heap.get?_push_of_some _ e) (Nat.le_refl _) (Heap.get?_push_size _ rfl) q
  · exact call_tuple_of pins s σ H _ us Q I r ⟨p, ys, rfl, .inr ⟨hq, q⟩⟩
theorem call_divF : CallR X (.builtin "divmod") (fun xs H Q => ∃ i j, xs = [.int i, .int j] ∧ CDiv i j ∧ NewTup H Q [.int (i / j), .int (i % j)]) := by
  intro pins s σ H xs us Q I r ⟨i, j, e, ⟨h1, h2⟩, q⟩
  subst e
  obtain ⟨u, w, rfl, ⟨t, rfl⟩, ⟨t', rfl⟩⟩ := vals2 r
  refine divmod_int (by omega) ?_ (.inl (PyProof.noPylong_small (by omega)))
  rw [Int.fdiv_eq_ediv_of_nonneg i (by omega), Int.fmod_eq_emod_of_nonneg i (by omega)]
  exact Inv.newTup (xs := [.int (i / j), .int (i % j)]) (us := [.int (i / j) s.toks, .int (i % j) (s.toks + 1)]) I (by simp only [List.length_cons, List.length_nil]; rw [sizeLine_eq]; decide) (.cons ⟨_, rfl⟩ (.cons ⟨_, rfl⟩ .nil)) (fun b o e => Heap.get?_push_of_some _ e) (Nat.le_refl _) (Heap.get?_push_size s.heap rfl) q
/-- t + u -/
def rCatF (K : PySem.W.Frag) : R2 := fun x y H Q => ∃ a b xs ys, x = .ref a ∧ y = .ref b ∧ SqT K H a xs ∧ SqT K H b ys ∧ xs.length + ys.length ≤ sizeLine ∧
  (xs = [] → Q (.ref b) H) ∧ (xs ≠ [] → ys = [] → Q (.ref a) H) ∧ (xs ≠ [] → ys ≠ [] → NewTup H Q (xs ++ ys))
theorem op_catF : OpR X (binaryOp .Add) (rCatF X.K) := by
  intro pins s σ H x y v u Q I rx ry ⟨a, b, xs, ys, ea, eb, ha, hb, hz, q0, q1, q2⟩
  subst ea
  subst eb
  by_cases hx : xs = []
  · subst hx
    cases rx
    cases ry
    obtain ⟨its, r1, p1, _⟩ := I.tuple ha
    obtain ⟨its2, r2, p2, _⟩ := I.tuple hb
    cases r1
    exact cat_tup0 p1 p2 ⟨.ref b, H, I, rfl, q0 rfl⟩
  · cases rx
    cases ry
    obtain ⟨its, r1, p1, _⟩ := I.tuple ha
    obtain ⟨its2, r2, p2, _⟩ := I.tuple hb
    refine HT.cat_tup p1 p2 (fun z => hx (r1.nil_iff.mp z)) (fun z => ⟨.ref a, H, I, rfl, q1 hx (r2.nil_iff.mp z)⟩) (fun z => ?_) (by rw [← r1.length, ← r2.length]; exact hz)
    exact Inv.newTup (tk := s.toks) I (by rw [List.length_append]; exact hz) (r1.append r2) (fun b ob q => Heap.get?_push_of_some _ q) (Nat.le_refl _) (Heap.get?_push_size _ rfl) (q2 hx fun w => z (r2.nil_iff.mpr w))
/-- t[lo:hi] -/
def rSlF (K : PySem.W.Frag) : V → Option Int → Option Int → Hp → VK → Prop := fun x lo hi H Q => ∃ a xs, x = .ref a ∧ SqT K H a xs ∧
  (HT.sIx xs.length 0 lo = 0 ∧ HT.sIx xs.length xs.length hi = xs.length → Q (.ref a) H) ∧ (¬ (HT.sIx xs.length 0 lo = 0 ∧ HT.sIx xs.length xs.length hi = xs.length) → NewTup H Q (cutV xs lo hi))
theorem sl_tupF : SlR X (rSlF X.K) := by
  intro pins s σ H x v vl vu lo hi sl Q I rx hs pl pu ⟨a, xs, ea, hx, q1, q2⟩
  subst ea
  cases rx
  obtain ⟨its, r, ht, hz⟩ := I.tuple hx
  have hlen : its.toArray.size = xs.length := by rw [List.size_toArray]; exact r.length.symm
  refine ⟨"tuple", _, PyProof.Rows.slot_tuple_getitem.lookup, ht.typeIs, ?_⟩
  by_cases hw : HT.sIx xs.length 0 lo = 0 ∧ HT.sIx xs.length xs.length hi = xs.length
  · exact getItem_tuple_whole ht hs pl pu (by rw [hlen]; exact hw) ⟨.ref a, H, I, rfl, q1 hw⟩
  · refine HT.getItem_tuple_cut ht hs pl pu (by rw [hlen]; exact hw) ?_ (by rw [hlen]; exact hz)
    rw [hlen]
    refine Inv.newTup (tk := s.toks) I (Nat.le_trans (cutV_length xs lo hi) hz) ((r.drop (HT.sIx xs.length 0 lo)).take (HT.sIx xs.length xs.length hi - HT.sIx xs.length 0 lo)) (fun b ob q => Heap.get?_push_of_some _ q) (Nat.le_refl _) (Heap.get?_push_size _ rfl) (q2 hw)
/-- t * k -/
def rRepF (K : PySem.W.Frag) : R2 := fun x y H Q => ∃ l k vs, x = .ref l ∧ y = .int k ∧ SqT K H l vs ∧ vs ≠ [] ∧ 2 ≤ k ∧ k ≤ 1000 ∧ vs.length ≤ 1000 ∧ NewTup H Q (List.replicate k.toNat vs).flatten
theorem op_repF : OpR X (binaryOp .Mult) (rRepF X.K) := by
  intro pins s σ H x y v u Q I rx ry h
  obtain ⟨l, k, vs, rfl, rfl, hq, hx, h1, h2, hzz, qq⟩ := h
  cases rx
  obtain ⟨t, rfl⟩ := ry
  obtain ⟨ws, r, ⟨⟨cls, d1, dat, sl1⟩, ho1, hc1, n, hd1⟩, hs⟩ := I.tuple hq
  simp only at hc1 hd1
  subst hc1 hd1
  have le1 : ws.length = vs.length := r.length.symm
  have ne1 : ws ≠ [] := fun e => hx (by
    rw [e] at le1
    exact List.eq_nil_of_length_eq_zero le1.symm)
  have emp : ws.toArray.isEmpty = false := by
    cases ws with
    | nil => exact absurd rfl ne1
    | cons a b => rfl
  have sz1 : ws.toArray.size = vs.length := by rw [List.size_toArray, le1]
  have mm : ((ws.toArray.size : Nat) : Int) * k ≤ 1000000 := by
    rw [sz1]
    have b1 : ((vs.length : Nat) : Int) * k ≤ 1000 * k := Int.mul_le_mul_of_nonneg_right (by omega) (by omega)
    omega
  have fl1 : (List.replicate k.toNat ws).flatten.length ≤ sizeLine := by
    rw [PyProof.Rows.lm_len_rep_flat, le1, sizeLine_eq]
    have b1 : k.toNat * vs.length ≤ 1000 * 1000 := Nat.mul_le_mul (by omega) hzz
    omega
  have g0 : (decide (k < -(2 ^ 63)) || decide (k ≥ 2 ^ 63)) = false := by
    rw [decide_eq_false (by omega), decide_eq_false (by omega)] <;> rfl
  have g1 : (ws.toArray.isEmpty || k == 1) = false := by
    rw [emp, Bool.false_or]
    exact beq_eq_false_iff_ne.mpr (by omega)
  have g2 : (decide (k ≤ 0) || ws.toArray.isEmpty) = false := by
    rw [emp, Bool.or_false]
    exact decide_eq_false (by omega)
  have g4 : Builtin.Tuple.tupleTooMany (((ws.toArray.size : Nat) : Int) * k) = false := by
    unfold Builtin.Tuple.tupleTooMany
    rw [sizeLine_eq]
    exact decide_eq_false (by omega)
  refine wpAny_binaryOp_repeat_ref (T := "tuple") (U := "int") (by decide) ⟨_, ho1, rfl⟩ (fun s' => typeIs_int s' k t) noFill_tuple_mul F.fills_int_mul F.slot_int_rmul repeat_tuple F.slot_int_index.lookup
    (call_meets F.slot_int_rmul (typeIs_int s k t) F.entry_int_rmul (F.args_int_rmul_2 _ _) (int_rmul_tuple k t l ws.toArray n d1 sl1)
      ⟨ho1, rfl, ⟨_, ho1, rfl⟩, call_meets F.slot_tuple_mul ⟨_, ho1, rfl⟩ F.entry_tuple_mul (F.args_tuple_mul_2 _ _) (tuple_mulW l ws.toArray n d1 sl1 k t g0 g1 g2 (by omega) g4 (by rw [size_rep, List.size_toArray]; exact fl1)) ⟨ho1, ?_⟩⟩)
  rw [size_rep]
  exact Inv.newTup (tk := s.toks) I (by rw [PyProof.Rows.lm_len_rep_flat, sizeLine_eq]; have b1 : k.toNat * vs.length ≤ 1000 * 1000 := Nat.mul_le_mul (by omega) hzz; omega) (r.rep k.toNat) (fun b ob z => Heap.get?_push_of_some _ z) (Nat.le_refl _) (Heap.get?_push_size _ rfl) qq
/-- dict of a tuple of pairs -/
theorem call_dictT (hcalm : X.calm = true) : CallR X (.type "dict") (fun xs H Q => ∃ (a : Addr) (ps : List Addr) (kvs : List (Key × V)), xs = [.ref a] ∧ PTu X.K H a (ps.map V.ref) ∧ Paired (fun p kv => SqT X.K H p [kV kv.1, kv.2]) ps kvs ∧
    ∀ p, H p = none → Q (.ref p) (L2.upd H p (.dK (mergeK [] kvs)))) := by
  intro pins s σ H xs us Q I r ⟨a, ps, kvs, ex, hq, hp, q⟩
  subst ex
  obtain ⟨u, eu, rx⟩ := vals1 r
  subst eu
  cases rx
  have pl : ∃ its : List Value, Vals (ps.map V.ref) its ∧ PlainSeq "tuple" s.heap a its.toArray ∧ (ps.map V.ref).length ≤ sizeLine := by
    rcases hq with ⟨o, h, hd⟩ | ⟨o, its, n, h1, h2, hd, h3, h4, h5⟩
    · obtain ⟨e, hz, its, r2, o2, e2, c2, n, d2⟩ := I.hok a _ h
      rw [e] at e2
      cases e2
      exact ⟨its, r2, ⟨o, n, e, c2, hd, d2⟩, hz⟩
    · refine ⟨its.toList, h5, ⟨o, n, I.kIn a o h1, h2, hd, by simpa using h3⟩, ?_⟩
      have e := h5.length
      simp only [Array.length_toList] at e
      omega
  obtain ⟨its, rv, pl, hz⟩ := pl
  have ei := refs_at rv
  subst ei
  rw [List.length_map] at hz
  obtain ⟨prs, rel, hl, hpr⟩ := pairs_of I hp
  have hU : ∀ j : Nat, ∃ u : Value, ∀ q, prs[j]? = some q → ∃ b, ps[j]? = some b ∧ IsTup s.heap b #[u, q.2] ∧ keyIs q.1 u = true := fun j => by
    cases e : prs[j]? with
    | none => exact ⟨.none, fun q z => nomatch z⟩
    | some q =>
      obtain ⟨b, u, e1, e2, e3⟩ := hpr j q e
      exact ⟨u, fun q' z => by cases z; exact ⟨b, e1, e2, e3⟩⟩
  let U : Nat → Value := fun j => Classical.choose (hU j)
  have hU' : ∀ j q, prs[j]? = some q → ∃ b, ps[j]? = some b ∧ IsTup s.heap b #[U j, q.2] ∧ keyIs q.1 (U j) = true := fun j => Classical.choose_spec (hU j)
  let pv : List (Value × Value) := prs.zipIdx.map fun p => (U p.2, p.1.2)
  have hpv : ∀ j k v, pv[j]? = some (k, v) → ∃ q, prs[j]? = some q ∧ k = U j ∧ v = q.2 := fun j k v e => by
    simp only [pv, List.getElem?_map, List.getElem?_zipIdx, Option.map_map, Option.map_eq_some_iff] at e
    obtain ⟨q, e1, e2⟩ := e
    simp only [Function.comp, Prod.mk.injEq, Nat.zero_add] at e2
    exact ⟨q, e1, e2.1.symm, e2.2.symm⟩
  have hpl : pv.length = ps.length := by simp [pv, hl]
  let Ts : Nat → Addr := fun j => ps.getD j 0
  refine PySem.call_dict_pairs (knd := mixKind X.prog X.w) (kvs := prs) (PairArg.tuple a (ps.map Value.ref).toArray Ts pv) (I.ok.hd hcalm) ⟨pl, by simp [hpl], fun j k v e => ?_⟩ ⟨by rw [hpl, hl], fun j k v e => ?_⟩ (by rw [hpl]; exact hz) fun h2 tk2 hd2 k => ?_
  · obtain ⟨q, e1, rfl, rfl⟩ := hpv j k v e
    obtain ⟨b, e2, e3, _⟩ := hU' j q e1
    have eT : Ts j = b := by simp [Ts, List.getD, e2]
    refine ⟨by rw [eT]; simp [e2], ?_⟩
    rw [eT]
    exact .inl e3
  · obtain ⟨q, e1, rfl, rfl⟩ := hpv j k v e
    obtain ⟨b, e2, e3, e4⟩ := hU' j q e1
    exact ⟨q.1, e1, e4⟩
  · have hm : (s.heap.objs.size == sysModules) = false := beq_eq_false_iff_ne.mpr (Nat.ne_of_gt I.big)
    have hlen : (mergeK [] kvs).length ≤ sizeLine := by
      refine Nat.le_trans (length_mergeK kvs []) ?_
      rw [List.length_nil, Nat.zero_add, rel.length, hl]
      exact hz
    exact ⟨.ref s.heap.objs.size, L2.upd H s.heap.objs.size (.dK (mergeK [] kvs)), I.laid (t' := tk2) (fun b o e => k b o (fun z => nomatch z) e) (Nat.le_refl _) (show ObjOk X.prog X.w _ _ _ (.dK (mergeK [] kvs)) from ⟨hlen, hm, merged [] prs, KV.merge rel .nil, hd2⟩), rfl, q _ (I.hok.fresh (Nat.le_refl _))⟩
end
/-- a new pair, known to its object -/
def YPr (xs ys : Nat → Option V) : Nat → Hp → V → Hp → Prop := fun n H v H1 => ∃ T o x y, v = .ref T ∧ H T = none ∧ o.dict = none ∧ H1 = L2.upd H T (.frz o (.tup [x, y])) ∧ xs n = some x ∧ ys n = some y
end RF
end
section
set_option linter.all false
set_option autoImplicit false
/-! RfSem: a small language of our own, its data by value, and what its terms do. Plain Lean. -/
namespace RF
open PySem (Str)

abbrev Ky := Sum Int Str
/-- data by value; obj n: the n-th thing of the store (shared, changed in place) -/
inductive D where
  | non | bl (b : Bool) | int (i : Int) | str (x : Str)
  | tup (l : List D) | lst (l : List D) | dct (l : List (Ky × D))
  | ins (c : Nat) (l : List (Str × D)) | obj (n : Nat)
  /-- a list that is never changed (the script) -/
  | frz (l : List D)
  deriving Inhabited

abbrev Sto := List D
inductive Out (α : Type) where
  | ok (a : α) (s : Sto) | exc (e : D) (s : Sto) | no
abbrev M (α : Type) := Sto → Out α
def M.pure {α : Type} (a : α) : M α := fun s => .ok a s
def M.bind {α β : Type} (m : M α) (f : α → M β) : M β := fun s => match m s with
  | .ok a s' => f a s'
  | .exc e s' => .exc e s'
  | .no => .no
def M.no {α : Type} : M α := fun _ => .no
instance : Monad M where
  pure := M.pure
  bind := M.bind
@[simp] theorem M.pure_run {α : Type} (a : α) (s : Sto) : (Pure.pure a : M α) s = .ok a s := rfl
@[simp] theorem M.bind_run {α β : Type} (m : M α) (f : α → M β) (s : Sto) : (m >>= f) s = (match m s with | .ok a s' => f a s' | .exc e s' => .exc e s' | .no => .no) := rfl
@[simp] theorem M.no_run {α : Type} (s : Sto) : (M.no : M α) s = .no := rfl
def M.ofO {α : Type} : Option α → M α
  | some a => Pure.pure a
  | none => M.no

/-! ### operations on data -/
mutual
def D.eqv : D → D → Bool
  | .non, .non => true
  | .bl a, .bl b => a == b
  | .bl a, .int j => (if a then 1 else 0) == j
  | .int i, .bl b => i == (if b then 1 else 0)
  | .int i, .int j => i == j
  | .str x, .str y => x == y
  | .lst xs, .lst ys => D.eqvs xs ys
  | .tup xs, .tup ys => D.eqvs xs ys
  | _, _ => false
def D.eqvs : List D → List D → Bool
  | [], [] => true
  | x :: xs, y :: ys => D.eqv x y && D.eqvs xs ys
  | _, _ => false
end
-- data that == of the model compares place by place: no dict, no instance, nothing shared
mutual
def D.plain : D → Bool
  | .tup l => D.plains l
  | .lst l => D.plains l
  | .dct _ => false
  | .ins _ _ => false
  | .obj _ => false
  | .frz _ => false
  | .str x => x.cps.all (· < 1114112)
  | _ => true
def D.plains : List D → Bool
  | [] => true
  | d :: r => D.plain d && D.plains r
end
mutual
def D.deep : D → Nat
  | .tup l => D.deeps l + 1
  | .lst l => D.deeps l + 1
  | _ => 0
def D.deeps : List D → Nat
  | [] => 0
  | d :: r => max (D.deep d) (D.deeps r)
end
/-- no tuple, list, dict, instance -/
def D.flat : D → Bool
  | .non | .bl _ | .int _ | .str _ => true
  | _ => false
def line : Nat := 16777216
mutual
def D.py : D → PySem.PyData
  | .non => .none
  | .bl b => .bool b
  | .int i => .int i
  | .str x => .str x
  | .tup l => .tuple (D.pys l)
  | .lst l => .list (D.pys l)
  | _ => .none
def D.pys : List D → List PySem.PyData
  | [] => []
  | d :: r => D.py d :: D.pys r
end
-- nothing in it can be changed
mutual
def D.imm : D → Bool
  | .non | .bl _ | .int _ | .str _ | .obj _ => true
  | .tup l => D.imms l
  | _ => false
def D.imms : List D → Bool
  | [] => true
  | d :: r => D.imm d && D.imms r
end
/-- what repr writes of plain data -/
def D.text (d : D) : Str := d.py.shown
def showOk (d : D) : Bool := D.plain d && (decide (D.deep d ≤ 60) && (d.py.showable && decide (d.text.length ≤ line)))
def keyOf : D → Option Ky
  | .int i => some (.inl i)
  | .str x => some (.inr x)
  | _ => none
def keyD : Ky → D
  | .inl i => .int i
  | .inr x => .str x
def dget {α : Type} (l : List (Ky × α)) (k : Ky) : Option α := match l with
  | [] => none
  | (j, v) :: r => if j = k then some v else dget r k
def dput {α : Type} (l : List (Ky × α)) (k : Ky) (v : α) : List (Ky × α) :=
  if (l.any fun p => decide (p.1 = k)) = true then l.map (fun p => if p.1 = k then (p.1, v) else p) else l ++ [(k, v)]
def dputs {α : Type} (l : List (Ky × α)) : List (Ky × α) → List (Ky × α)
  | [] => l
  | (k, v) :: r => dputs (dput l k v) r
/-- the place of an index -/
def ixOf (n : Nat) (i : Int) : Option Nat := if 0 ≤ i then (if i < n then some i.toNat else none) else if -(n : Int) ≤ i then some (i + n).toNat else none
def atI {α : Type} (xs : List α) (i : Int) : Option α := (ixOf xs.length i).bind fun j => xs[j]?
/-- a slice's end -/
def cutIx (n d : Nat) : Option Int → Nat
  | none => d
  | some v => if v < 0 then (v + n).toNat else min v.toNat n
def cutL {α : Type} (xs : List α) (lo hi : Option Int) : List α := (xs.drop (cutIx xs.length 0 lo)).take (cutIx xs.length xs.length hi - cutIx xs.length 0 lo)
def sgn (c : Nat) : Str := ⟨#[c]⟩

inductive Bop where
  | add | sub | mul | fdiv | mod | pow
  deriving DecidableEq
def mulOk (i j : Int) : Bool := decide (i.natAbs.log2 + j.natAbs.log2 < 1000000)
def divOk (j : Int) : Bool := decide (0 < j) && decide (j.natAbs.log2 < 9000)
def powOk (i j : Int) : Bool := decide (0 ≤ j) && (decide (j ≤ 1000000) && decide (i.natAbs < 2 ^ 64))
def binD : Bop → D → D → M D
  | .add, .int i, .int j => pure (.int (i + j))
  | .add, .str x, .str y => if x.length + y.length ≤ line then pure (.str (x ++ y)) else M.no
  | .add, .lst x, .lst y => if x.length + y.length ≤ line then pure (.lst (x ++ y)) else M.no
  | .add, .tup x, .tup y => if x.length + y.length ≤ line then pure (.tup (x ++ y)) else M.no
  | .sub, .int i, .int j => pure (.int (i - j))
  | .mul, .int i, .int j => if mulOk i j = true then pure (.int (i * j)) else M.no
  | .mul, .lst x, .int k => if x.length * k.toNat ≤ 1000000 ∧ k < 1000000 ∧ -1000000 < k then pure (.lst (List.replicate k.toNat x).flatten) else M.no
  | .mul, .tup x, .int k => if x.length ≠ 0 ∧ 2 ≤ k ∧ k ≤ 1000 ∧ x.length ≤ 1000 then pure (.tup (List.replicate k.toNat x).flatten) else M.no
  | .fdiv, .int i, .int j => if divOk j = true then pure (.int (i / j)) else M.no
  | .mod, .int i, .int j => if 0 < j then pure (.int (i % j)) else M.no
  | .pow, .int i, .int j => if powOk i j = true then pure (.int (i ^ j.toNat)) else M.no
  | _, _, _ => M.no

inductive Cop where
  | eq | ne | lt | le | gt | ge | isN | notN | inn | nin
  deriving DecidableEq
def okEq (a b : D) : Bool := (D.plain a && decide (D.deep a ≤ 60)) && (D.plain b && decide (D.deep b ≤ 60))
def hasKey {α : Type} (l : List (Ky × α)) (k : Ky) : Bool := (dget l k).isSome
/-- x in y, for flat x (and flat items) -/
def inD (s : Sto) (x : D) : D → Option Bool
  | .lst l => if D.flat x && l.all D.flat then some (l.any fun y => D.eqv y x) else none
  | .tup l => if D.flat x && l.all D.flat then some (l.any fun y => D.eqv y x) else none
  | .str z => (match x with
    | .str y => (match y.cps.toList with
      | [c] => some (decide (c ∈ z.cps.toList))
      | _ => none)
    | _ => none)
  | .dct l => (match x with
    | .str y => some (hasKey l (.inr y))
    | .int i => some (hasKey l (.inl i))
    | _ => none)
  | _ => none
def eqK (a b : Ky) : Bool := match a, b with
  | .inl i, .inl j => i == j
  | .inr x, .inr y => x == y
  | _, _ => false
/-- == of two dicts whose values are plain -/
def dctEq (l m : List (Ky × D)) : Bool := l.length == m.length && l.all fun p => (match dget m p.1 with
  | some v => D.eqv p.2 v
  | none => false)
def plainV (l : List (Ky × D)) : Bool := l.all fun p => D.plain p.2 && decide (D.deep p.2 ≤ 60)
def D.isNon : D → Bool
  | .non => true
  | _ => false
def cmpD : Cop → D → D → M D
  | .eq, .dct l, .dct m => if plainV l && plainV m then pure (.bl (dctEq l m)) else M.no
  | .ne, .dct l, .dct m => if plainV l && plainV m then pure (.bl (!dctEq l m)) else M.no
  | .eq, .str x, .str y => pure (.bl (decide (x = y)))
  | .ne, .str x, .str y => pure (.bl (!decide (x = y)))
  | .eq, a, b => if okEq a b then pure (.bl (D.eqv a b)) else M.no
  | .ne, a, b => if okEq a b then pure (.bl (!D.eqv a b)) else M.no
  | .lt, .int i, .int j => pure (.bl (decide (i < j)))
  | .le, .int i, .int j => pure (.bl (decide (i ≤ j)))
  | .gt, .int i, .int j => pure (.bl (decide (j < i)))
  | .ge, .int i, .int j => pure (.bl (decide (j ≤ i)))
  | .lt, .str x, .str y => pure (.bl (decide (x.cps.toList < y.cps.toList)))
  | .isN, a, .non => pure (.bl a.isNon)
  | .notN, a, .non => pure (.bl (!a.isNon))
  | .inn, a, b => fun s => (match inD s a b with
    | some r => .ok (.bl r) s
    | none => .no)
  | .nin, a, b => fun s => (match inD s a b with
    | some r => .ok (.bl (!r)) s
    | none => .no)
  | _, _, _ => M.no

inductive Ty where
  | int | bool | str | tuple | cls (c : Nat)
  deriving DecidableEq
def isTy : Ty → D → Bool
  | .int, .int _ | .int, .bl _ | .bool, .bl _ | .str, .str _ | .tuple, .tup _ => true
  | .cls c, .ins c' _ => c == c'
  | _, _ => false

/-- isinstance; n: how many classes there are -/
def clsIn (n : Nat) : D → Bool
  | .ins c _ => decide (c < n)
  | _ => true
def isD (n : Nat) (s : Sto) (t : Ty) : D → Option Bool
  | .obj m => (match s[m]? with
    | some (.ins c l) => if c < n then some (isTy t (.ins c l)) else none
    | some (.lst l) => some (isTy t (.lst l))
    | some (.dct l) => some (isTy t (.dct l))
    | _ => none)
  | d => if clsIn n d = true then some (isTy t d) else none
/-- the builtins that are called by their names -/
inductive Bi where
  | len | tuple | list | dict | sorted | sortedSet | abs | min | max | int | bool | str | repr | all | any | divmod
  deriving DecidableEq
def strsOf : List D → Option (List Str)
  | [] => some []
  | .str x :: r => (strsOf r).map (x :: ·)
  | _ :: _ => none
def blsOf : List D → Option (List Bool)
  | [] => some []
  | .bl x :: r => (blsOf r).map (x :: ·)
  | _ :: _ => none
def strLe (x y : Str) : Bool := decide (x.cps.toList ≤ y.cps.toList)
def insertS (x : Str) : List Str → List Str
  | [] => [x]
  | y :: r => if strLe x y then x :: y :: r else y :: insertS x r
/-- in ascending order -/
def sortS : List Str → List Str
  | [] => []
  | x :: r => insertS x (sortS r)
def insertU (x : Str) : List Str → List Str
  | [] => [x]
  | y :: r => if x = y then y :: r else if strLe x y then x :: y :: r else y :: insertU x r
/-- in ascending order, each once -/
def sortU : List Str → List Str
  | [] => []
  | x :: r => insertU x (sortU r)
def pairsOf : List D → Option (List (Ky × D))
  | [] => some []
  | .tup [k, v] :: r => (match keyOf k, pairsOf r with
    | some q, some m => some ((q, v) :: m)
    | _, _ => none)
  | _ :: _ => none
def seqOf : D → Option (List D)
  | .tup l => some l
  | .lst l => some l
  | _ => none
def biD : Bi → List D → M D
  | .len, [.tup l] => pure (.int l.length)
  | .len, [.lst l] => pure (.int l.length)
  | .len, [.dct l] => pure (.int l.length)
  | .len, [.frz l] => pure (.int l.length)
  | .len, [.str x] => if x.length ≤ line then pure (.int x.length) else M.no
  | .tuple, [.lst l] => pure (.tup l)
  | .tuple, [.tup l] => pure (.tup l)
  | .list, [.lst l] => pure (.lst l)
  | .list, [.tup l] => pure (.lst l)
  | .dict, [.dct l] => pure (.dct l)
  | .dict, [.lst l] => (match pairsOf l with
    | some m => if m.length ≤ line then pure (.dct (dputs [] m)) else M.no
    | none => M.no)
  | .dict, [.tup l] => (match pairsOf l with
    | some m => if m.length ≤ line then pure (.dct (dputs [] m)) else M.no
    | none => M.no)
  | .sorted, [.lst l] => (match strsOf l with
    | some xs => if xs.length < 64 then pure (.lst ((sortS xs).map .str)) else M.no
    | none => M.no)
  | .abs, [.int i] => pure (.int (if i < 0 then -i else i))
  | .min, [.int i, .int j] => pure (.int (if j < i then j else i))
  | .max, [.int i, .int j] => pure (.int (if j > i then j else i))
  | .int, [.int i] => pure (.int i)
  | .int, [.bl b] => pure (.int (if b then 1 else 0))
  | .all, [.lst l] => (match blsOf l with
    | some bs => pure (.bl (bs.all id))
    | none => M.no)
  | .any, [.lst l] => (match blsOf l with
    | some bs => pure (.bl (bs.any id))
    | none => M.no)
  | .repr, [.lst l] => if showOk (.lst l) = true then pure (.str (D.text (.lst l))) else M.no
  | .repr, [.tup l] => if showOk (.tup l) = true then pure (.str (D.text (.tup l))) else M.no
  | .divmod, [.int i, .int j] => if 0 < j ∧ j < 1073741824 then pure (.tup [.int (i / j), .int (i % j)]) else M.no
  | _, _ => M.no

/-! ### the terms -/
inductive Tg where
  | nm (i : Nat) | tup (l : List Tg)
inductive ItK where
  | seq | range1 | range2 | enum
  deriving DecidableEq
inductive X where
  | var (i : Nat)
  | cst (d : D)
  | call (f : Nat) (as : List X)
  | bi (b : Bi) (as : List X)
  | bin (op : Bop) (a b : X)
  | neg (a : X)
  | cmp (op : Cop) (a b : X)
  | chain (op op' : Cop) (a b c : X)
  | and (l : List X)
  | or (l : List X)
  | not (a : X)
  | ite (c a b : X)
  | tup (l : List X)
  | lst (l : List X)
  | ix (a i : X)
  | cut (a : X) (lo hi : Option X)
  | comp (e : X) (tg : Tg) (k : ItK) (it : List X) (ifs : List X) (own : List Nat)
  | isi (a : X) (t : Ty)
  | attr (a : X) (f : Str)
  | meth (a : X) (m : Str) (as : List X)
  | fstr (l : List X)
  /-- an own slot that holds what can't be changed -/
  | vim (i : Nat)
  /-- a call that reads own slots, and answers with what can't be changed -/
  | callB (f : Nat) (as : List X)
  | dnew
  /-- a module's constant -/
  | gl (i : Nat)
  /-- x + y, x * n, x[..] of lists: something new -/
  | addN (a b : X)
  | mulN (a b : X)
  | cutN (a : X) (lo hi : Option X)
  /-- something new, for the store -/
  | mkx (e : X)
  /-- a dict of the module: whether it has a key, what stands at a key -/
  | inG (i : Nat) (no : Bool) (a : X)
  | ixG (i : Nat) (a : X)
  /-- a call with keywords; pm: where each parameter's argument stands -/
  | callK (f : Nat) (as ks : List X) (pm : List Nat)
  /-- sorted(set(..)) of texts -/
  | srt (a : X)
  deriving Inhabited
inductive S where
  | asg (t : Tg) (e : X)
  /-- an own slot takes what can't be changed -/
  | asgI (i : Nat) (e : X)
  /-- a new thing of the store -/
  | mk (i : Nat) (e : X)
  | par (l : List Nat) (es : List X)
  | setIx (i : Nat) (k e : X)
  /-- into a thing of the store -/
  | setOb (i : Nat) (k e : X)
  | ex (e : X)
  | app (i : Nat) (e : X)
  /-- x[k], y = e, x a thing of the store -/
  | obT (i : Nat) (k : X) (j : Nat) (e : X)
  | iff (c : X) (a b : List S)
  | forr (t : Tg) (k : ItK) (it : List X) (body : List S)
  | whl (c : X) (body : List S)
  | ret (e : Option X)
  /-- what an own slot holds is given back, new -/
  | retO (i : Nat)
  | never
  | pass
  | brk
  deriving Inhabited

/-! ### what they do -/
abbrev En := List (Option D)
def getV (δ : En) (i : Nat) : M D := match δ[i]? with
  | some (some d) => pure d
  | _ => M.no
mutual
def bindT : Tg → D → En → Option En
  | .nm i, d, δ => if i < δ.length then some (δ.set i (some d)) else none
  | .tup ts, .tup ds, δ => bindTs ts ds δ
  | .tup _, _, _ => none
def bindTs : List Tg → List D → En → Option En
  | [], [], δ => some δ
  | t :: ts, d :: ds, δ => (bindT t d δ).bind fun δ' => bindTs ts ds δ'
  | _, _, _ => none
end
def asB : D → M Bool
  | .bl b => pure b
  | _ => M.no
def rangeL : Nat → Int → List D
  | 0, _ => []
  | n + 1, lo => .int lo :: rangeL n (lo + 1)
def enumL : Nat → List D → List D
  | _, [] => []
  | n, d :: r => .tup [.int n, d] :: enumL (n + 1) r
def small (i : Int) : Bool := decide (-(2 ^ 62) ≤ i) && decide (i < 2 ^ 62)
def itemsOf : ItK → List D → Option (List D)
  | .seq, [.tup l] => some l
  | .seq, [.lst l] => some l
  | .seq, [.frz l] => some l
  | .seq, [.str x] => some (x.cps.toList.map fun c => .str (sgn c))
  | .range1, [.int j] => if small j then some (rangeL j.toNat 0) else none
  | .range2, [.int i, .int j] => if small i && small j then some (rangeL (j - i).toNat i) else none
  | .enum, [.lst l] => some (enumL 0 l)
  | .enum, [.tup l] => some (enumL 0 l)
  | _, _ => none
def ixD (s : Sto) : D → D → Option D
  | .tup l, .int i => atI l i
  | .lst l, .int i => atI l i
  | .frz l, .int i => atI l i
  | .str z, .int i => if z.length ≤ line then (atI z.cps.toList i).map fun c => .str (sgn c) else none
  | .dct l, k => (keyOf k).bind fun q => dget l q
  | .obj n, .int i => (match s[n]? with
    | some (.lst l) => atI l i
    | _ => none)
  | _, _ => none
def cutD : D → Option Int → Option Int → Option D
  | .tup l, lo, hi => some (.tup (cutL l lo hi))
  | .lst l, lo, hi => some (.lst (cutL l lo hi))
  | .frz l, lo, hi => some (.lst (cutL l lo hi))
  | .str z, lo, hi => if z.length ≤ line then some (.str ⟨(cutL z.cps.toList lo hi).toArray⟩) else none
  | _, _, _ => none
/-- what stands in an f-string -/
def fmtD : D → Option Str
  | .str x => some x
  | .int i => if i.natAbs.log2 < 1920 then some (Str.ofString (toString i)) else none
  | _ => none
def fmtsD : List D → Option (List Str)
  | [] => some []
  | d :: r => (match fmtD d, fmtsD r with
    | some x, some l => some (x :: l)
    | _, _ => none)
def joinS : List Str → Str
  | [] => Str.empty
  | x :: r => x ++ joinS r
def wipe (δ : En) : List Nat → En
  | [] => δ
  | v :: vs => (wipe δ vs).set v none
/-- what calls, methods and attributes give: the def's number and its arguments; an instance, a name, its arguments -/
structure Fns where
  tb : Nat → List (Str × D)
  nc : Nat
  gl : Nat → D
  fn : Nat → List D → M D
  mt : D → Str → List D → M D
  at_ : D → Str → M D
def compL (f : D → M (Option D)) : List D → M (List D)
  | [] => pure []
  | d :: r => do
    let o ← f d
    let l ← compL f r
    pure (match o with
      | some v => v :: l
      | none => l)
def addNF : D → D → M D
  | .lst x, .lst y => if x.length + y.length ≤ line then pure (.lst (x ++ y)) else M.no
  | _, _ => M.no
def mulNF : D → D → M D
  | .lst x, .int k => if x.length * k.toNat ≤ 1000000 ∧ k < 1000000 ∧ -1000000 < k then pure (.lst (List.replicate k.toNat x).flatten) else M.no
  | _, _ => M.no
def srtF (x : D) : M D := match seqOf x with
  | some l => (match strsOf l with
    | some xs => if xs.length < 64 then pure (.lst ((sortU xs).map .str)) else M.no
    | none => M.no)
  | none => M.no
def cutNF (x : D) (l h : Option Int) : M D := match x with
  | .lst x => pure (.lst (cutL x l h))
  | .frz x => pure (.lst (cutL x l h))
  | _ => M.no
/-- the values by the parameters' order: pm tells where each stands -/
def pick {α : Type} (pm : List Nat) (l : List α) (d : α) : List α := pm.map fun i => l.getD i d
def permD (pm : List Nat) (ds : List D) : List D := pick pm ds .non
def inGF (l : List (Str × D)) (no : Bool) : D → M D
  | .str z => pure (.bl (if no then !(l.lookup z).isSome else (l.lookup z).isSome))
  | _ => M.no
def ixGF (l : List (Str × D)) : D → M D
  | .str z => M.ofO (l.lookup z)
  | _ => M.no
mutual
def denX (Φ : Fns) : X → En → M D
  | .var i, δ => getV δ i
  | .cst d, _ => pure d
  | .call f as, δ => do Φ.fn f (← denXs Φ as δ)
  | .bi b as, δ => do biD b (← denXs Φ as δ)
  | .bin op a b, δ => do
    let x ← denX Φ a δ
    let y ← denX Φ b δ
    binD op x y
  | .neg a, δ => do
    match ← denX Φ a δ with
    | .int i => pure (.int (-i))
    | _ => M.no
  | .cmp op a b, δ => do
    let x ← denX Φ a δ
    let y ← denX Φ b δ
    cmpD op x y
  | .chain op op' a b c, δ => do
    let x ← denX Φ a δ
    let y ← denX Φ b δ
    let k ← asB (← cmpD op x y)
    if k then do
      let z ← denX Φ c δ
      cmpD op' y z
    else pure (.bl false)
  | .and l, δ => do pure (.bl (← denAnd Φ l δ))
  | .or l, δ => do pure (.bl (← denOr Φ l δ))
  | .not a, δ => do pure (.bl (!(← asB (← denX Φ a δ))))
  | .ite c a b, δ => do
    if ← asB (← denX Φ c δ) then denX Φ a δ else denX Φ b δ
  | .tup l, δ => do
    let ds ← denXs Φ l δ
    if ds.length ≤ 1000 then pure (.tup ds) else M.no
  | .lst l, δ => do
    let ds ← denXs Φ l δ
    if ds.length ≤ 1000 then pure (.lst ds) else M.no
  | .ix a i, δ => do
    let x ← denX Φ a δ
    let y ← denX Φ i δ
    fun s => match ixD s x y with
      | some v => .ok v s
      | none => .no
  | .cut a lo hi, δ => do
    let x ← denX Φ a δ
    let l ← denO Φ lo δ
    let h ← denO Φ hi δ
    M.ofO (cutD x l h)
  | .comp e tg k it ifs own, δ => do
    let ds ← denXs Φ it δ
    let items ← M.ofO (itemsOf k ds)
    let l ← compL (fun d => do
      let δ' ← M.ofO (bindT tg d (wipe δ own))
      if ← denAnd Φ ifs δ' then do pure (some (← denX Φ e δ')) else pure none) items
    if items.length < line then pure (.lst l) else M.no
  | .isi a t, δ => do
    let x ← denX Φ a δ
    fun s => match isD Φ.nc s t x with
      | some b => .ok (.bl b) s
      | none => .no
  | .attr a f, δ => do Φ.at_ (← denX Φ a δ) f
  | .meth a m as, δ => do
    let x ← denX Φ a δ
    let ds ← denXs Φ as δ
    Φ.mt x m ds
  | .fstr l, δ => do
    let ds ← denXs Φ l δ
    match fmtsD ds with
    | some xs => if (joinS xs).length ≤ line then pure (.str (joinS xs)) else M.no
    | none => M.no
  | .vim i, δ => do
    let d ← getV δ i
    if d.imm then pure d else M.no
  | .callB f as, δ => do
    let d ← Φ.fn f (← denXs Φ as δ)
    if d.imm then pure d else M.no
  | .dnew, _ => pure (.dct [])
  | .gl i, _ => pure (Φ.gl i)
  | .addN a b, δ => do
    let x ← denX Φ a δ
    let y ← denX Φ b δ
    addNF x y
  | .mulN a b, δ => do
    let x ← denX Φ a δ
    let y ← denX Φ b δ
    mulNF x y
  | .cutN a lo hi, δ => do
    let x ← denX Φ a δ
    let l ← denO Φ lo δ
    let h ← denO Φ hi δ
    cutNF x l h
  | .mkx e, δ => do
    let d ← denX Φ e δ
    fun s => .ok (.obj s.length) (s ++ [d])
  | .inG i no a, δ => do inGF (Φ.tb i) no (← denX Φ a δ)
  | .ixG i a, δ => do ixGF (Φ.tb i) (← denX Φ a δ)
  | .callK f as ks pm, δ => do
    let a ← denXs Φ as δ
    let c ← denXs Φ ks δ
    Φ.fn f (permD pm (a ++ c))
  | .srt a, δ => do srtF (← denX Φ a δ)
def denXs (Φ : Fns) : List X → En → M (List D)
  | [], _ => pure []
  | a :: r, δ => do
    let x ← denX Φ a δ
    let l ← denXs Φ r δ
    pure (x :: l)
def denAnd (Φ : Fns) : List X → En → M Bool
  | [], _ => pure true
  | a :: r, δ => do
    if ← asB (← denX Φ a δ) then denAnd Φ r δ else pure false
def denOr (Φ : Fns) : List X → En → M Bool
  | [], _ => pure false
  | a :: r, δ => do
    if ← asB (← denX Φ a δ) then pure true else denOr Φ r δ
def denO (Φ : Fns) : Option X → En → M (Option Int)
  | none, _ => pure none
  | some a, δ => do
    match ← denX Φ a δ with
    | .int i => pure (some i)
    | _ => M.no
end
/-- how a statement ends -/
inductive Fl where
  | nx (δ : En) | bk (δ : En) | rt (d : D)
def forL (f : D → En → M Fl) : List D → En → M Fl
  | [], δ => pure (.nx δ)
  | d :: r, δ => do
    match ← f d δ with
    | .nx δ' => forL f r δ'
    | .bk δ' => pure (.nx δ')
    | .rt v => pure (.rt v)
def whlL (c : En → M Bool) (f : En → M Fl) : Nat → En → M Fl
  | 0, _ => M.no
  | n + 1, δ => do
    if ← c δ then do
      match ← f δ with
      | .nx δ' => whlL c f n δ'
      | .bk δ' => pure (.nx δ')
      | .rt v => pure (.rt v)
    else pure (.nx δ)
def setMany : List Nat → List D → En → Option En
  | [], [], δ => some δ
  | i :: is, d :: ds, δ => if i < δ.length then setMany is ds (δ.set i (some d)) else none
  | _, _, _ => none
def setIxF (i : Nat) (o q v : D) (δ : En) : M Fl := match o, q with
  | .lst l, .int j => (match ixOf l.length j with
    | some m => pure (.nx (δ.set i (some (.lst (l.set m v)))))
    | none => M.no)
  | .dct l, q => (match keyOf q with
    | some m => if l.length < line then pure (.nx (δ.set i (some (.dct (dput l m v))))) else M.no
    | none => M.no)
  | _, _ => M.no
def setObF (o q v : D) (δ : En) : M Fl := match o with
  | .obj n => fun s => (match s[n]?, q with
    | some (.lst l), .int j => (match ixOf l.length j with
      | some m => .ok (.nx δ) (s.set n (.lst (l.set m v)))
      | none => .no)
    | some (.dct l), q => (match keyOf q with
      | some m => if l.length < line then .ok (.nx δ) (s.set n (.dct (dput l m v))) else .no
      | none => .no)
    | _, _ => .no)
  | _ => M.no
def appF (i : Nat) (o v : D) (δ : En) : M Fl := match o with
  | .lst l => if l.length < line then pure (.nx (δ.set i (some (.lst (l ++ [v]))))) else M.no
  | _ => M.no
mutual
def denS (Φ : Fns) (N : Nat) : S → En → M Fl
  | .asg t e, δ => do
    let d ← denX Φ e δ
    pure (.nx (← M.ofO (bindT t d δ)))
  | .asgI i e, δ => do
    let d ← denX Φ e δ
    if d.imm then pure (.nx (← M.ofO (bindT (.nm i) d δ))) else M.no
  | .mk i e, δ => do
    let d ← denX Φ e δ
    fun s => match bindT (.nm i) (.obj s.length) δ with
      | some δ' => .ok (.nx δ') (s ++ [d])
      | none => .no
  | .par is es, δ => do
    let ds ← denXs Φ es δ
    pure (.nx (← M.ofO (setMany is ds δ)))
  | .setIx i k e, δ => do
    let v ← denX Φ e δ
    let o ← getV δ i
    let q ← denX Φ k δ
    setIxF i o q v δ
  | .setOb i k e, δ => do
    let v ← denX Φ e δ
    let o ← getV δ i
    let q ← denX Φ k δ
    setObF o q v δ
  | .ex e, δ => do
    let _ ← denX Φ e δ
    pure (.nx δ)
  | .obT i k j e, δ => do
    let d ← denX Φ e δ
    match d with
    | .tup [a, b] => do
      let o ← getV δ i
      let q ← denX Φ k δ
      match ← setObF o q a δ with
      | .nx δ' => do pure (.nx (← M.ofO (bindT (.nm j) b δ')))
      | _ => M.no
    | _ => M.no
  | .app i e, δ => do
    let o ← getV δ i
    let v ← denX Φ e δ
    appF i o v δ
  | .iff c a b, δ => do
    if ← asB (← denX Φ c δ) then denSs Φ N a δ else denSs Φ N b δ
  | .forr t k it body, δ => do
    let ds ← denXs Φ it δ
    let items ← M.ofO (itemsOf k ds)
    forL (fun d δ' => do
      let δ'' ← M.ofO (bindT t d δ')
      denSs Φ N body δ'') items δ
  | .whl c body, δ => whlL (fun δ' => do asB (← denX Φ c δ')) (fun δ' => denSs Φ N body δ') N δ
  | .ret none, _ => pure (.rt .non)
  | .ret (some e), δ => do pure (.rt (← denX Φ e δ))
  | .retO i, δ => do
    let d ← getV δ i
    if d.imm = true then M.no else pure (.rt d)
  | .never, _ => M.no
  | .pass, δ => pure (.nx δ)
  | .brk, δ => pure (.bk δ)
def denSs (Φ : Fns) (N : Nat) : List S → En → M Fl
  | [], δ => pure (.nx δ)
  | s :: r, δ => do
    match ← denS Φ N s δ with
    | .nx δ' => denSs Φ N r δ'
    | .bk δ' => pure (.bk δ')
    | .rt v => pure (.rt v)
end
/-- a body run at its parameters -/
def runB (F : En → M Fl) (n : Nat) (ds : List D) : M D := do
  match ← F (ds.map some ++ List.replicate (n - ds.length) none) with
  | .nx _ => pure .non
  | .bk _ => M.no
  | .rt d => pure d
/-- .. that must return -/
def runN (F : En → M Fl) (n : Nat) (ds : List D) : M D := do
  match ← F (ds.map some ++ List.replicate (n - ds.length) none) with
  | .nx _ => M.no
  | .bk _ => M.no
  | .rt d => pure d

end RF
end
section
set_option linter.all false
set_option maxRecDepth 100000
set_option maxHeartbeats 4000000
set_option autoImplicit false
/-! RfRep: how data by value stand in the model's heap, and how a step of the heap keeps them. -/
namespace RF
open PySem PySem.Spec L2
open PyProof.Rows hiding St

/-- rho: where the store's things stand; ow: the lists and dicts that a def's own slots hold and change; av: what else must not be reached -/
structure Wd where
  rho : List Addr
  ow : Nat → Option Addr
  av : Addr → Prop
def Wd.bar (ω : Wd) (a : Addr) : Prop := a ∈ ω.rho ∨ (∃ i, ω.ow i = some a) ∨ ω.av a
abbrev Wd.noOw (ω : Wd) : Wd := { ω with ow := fun _ => none }

/-- the value v is the data d. cl: where the classes stand -/
inductive Rep (K : PySem.W.Frag) (cl : Nat → Addr) (ω : Wd) (H : Hp) : V → D → Prop
  | non : Rep K cl ω H .non .non
  | bl (b : Bool) : Rep K cl ω H (.bl b) (.bl b)
  | int (i : Int) : Rep K cl ω H (.int i) (.int i)
  | str (x : Str) : Rep K cl ω H (.str x) (.str x)
  | tup {a : Addr} {vs : List V} {ds : List D} (h : PTu K H a vs) (l : vs.length = ds.length) (e : ∀ (i : Nat) (v : V) (d : D), vs[i]? = some v → ds[i]? = some d → Rep K cl ω H v d) : Rep K cl ω H (.ref a) (.tup ds)
  | lst {a : Addr} {vs : List V} {ds : List D} (h : H a = some (.lst vs)) (n : ¬ ω.bar a) (l : vs.length = ds.length) (e : ∀ (i : Nat) (v : V) (d : D), vs[i]? = some v → ds[i]? = some d → Rep K cl ω H v d) : Rep K cl ω H (.ref a) (.lst ds)
  | dct {a : Addr} {vs : List (Key × V)} {ds : List (Ky × D)} (h : H a = some (.dK vs)) (n : ¬ ω.bar a) (l : vs.length = ds.length)
      (ek : ∀ (i : Nat) (k : Key) (v : V) (q : Ky) (d : D), vs[i]? = some (k, v) → ds[i]? = some (q, d) → k = q)
      (e : ∀ (i : Nat) (k : Key) (v : V) (q : Ky) (d : D), vs[i]? = some (k, v) → ds[i]? = some (q, d) → Rep K cl ω H v d) : Rep K cl ω H (.ref a) (.dct ds)
  | ins {a dx : Addr} {c : Nat} {fs : List (Str × V)} {gs : List (Str × D)} (h : H a = some (.ins (cl c) dx fs)) (n : ¬ ω.bar a) (l : fs.length = gs.length)
      (ek : ∀ (i : Nat) (k : Str) (v : V) (q : Str) (d : D), fs[i]? = some (k, v) → gs[i]? = some (q, d) → k = q)
      (e : ∀ (i : Nat) (k : Str) (v : V) (q : Str) (d : D), fs[i]? = some (k, v) → gs[i]? = some (q, d) → Rep K cl ω H v d) : Rep K cl ω H (.ref a) (.ins c gs)
  | obj {a : Addr} {n : Nat} (h : ω.rho[n]? = some a) : Rep K cl ω H (.ref a) (.obj n)
  | frz {a : Addr} {vs : List V} {ds : List D} (h : (∃ o, H a = some (.frz o (.lst vs)) ∧ ¬ ω.bar a) ∨ SqL K (fun _ => none) a vs) (l : vs.length = ds.length) (e : ∀ (i : Nat) (v : V) (d : D), vs[i]? = some v → ds[i]? = some d → Rep K cl ω H v d) : Rep K cl ω H (.ref a) (.frz ds)

def RepL (K : PySem.W.Frag) (cl : Nat → Addr) (ω : Wd) (H : Hp) (vs : List V) (ds : List D) : Prop :=
  vs.length = ds.length ∧ ∀ (i : Nat) (v : V) (d : D), vs[i]? = some v → ds[i]? = some d → Rep K cl ω H v d
def RepK (K : PySem.W.Frag) (cl : Nat → Addr) (ω : Wd) (H : Hp) {κ : Type} (vs : List (κ × V)) (ds : List (κ × D)) : Prop :=
  vs.length = ds.length ∧ ∀ (i : Nat) (k : κ) (v : V) (q : κ) (d : D), vs[i]? = some (k, v) → ds[i]? = some (q, d) → k = q ∧ Rep K cl ω H v d

/-- what a def's own slot holds, and may change -/
def Own (K : PySem.W.Frag) (cl : Nat → Addr) (ω : Wd) (H : Hp) (a : Addr) : D → Prop
  | .lst ds => ∃ vs, H a = some (.lst vs) ∧ RepL K cl ω H vs ds
  | .dct ds => ∃ vs, H a = some (.dK vs) ∧ RepK K cl ω H vs ds
  | .ins c gs => ∃ dx fs, H a = some (.ins (cl c) dx fs) ∧ RepK K cl ω H fs gs
  | _ => False
/-- read: as data, or as what an own slot holds -/
def RepB (K : PySem.W.Frag) (cl : Nat → Addr) (ω : Wd) (H : Hp) (v : V) (d : D) : Prop :=
  Rep K cl ω H v d ∨ ∃ a i, v = .ref a ∧ ω.ow i = some a ∧ Own K cl ω H a d

structure WOk (ω : Wd) (H : Hp) : Prop where
  nd : ω.rho.Nodup
  rho : ∀ a ∈ ω.rho, H a ≠ none
  ow : ∀ i a, ω.ow i = some a → H a ≠ none ∧ a ∉ ω.rho ∧ ¬ ω.av a
  inj : ∀ i j a, ω.ow i = some a → ω.ow j = some a → i = j
  av : ∀ a, ω.av a → H a ≠ none ∧ a ∉ ω.rho
theorem WOk.bar {ω : Wd} {H : Hp} (k : WOk ω H) {a : Addr} (h : ω.bar a) : H a ≠ none := by
  rcases h with h | ⟨i, h⟩ | h
  · exact k.rho a h
  · exact (k.ow i a h).1
  · exact (k.av a h).1

/-- a step: own slots in M may have changed what they hold -/
structure GoS (M : List Nat) (ω : Wd) (H : Hp) (ω' : Wd) (H' : Hp) : Prop where
  pre : ∀ (n : Nat) (a : Addr), ω.rho[n]? = some a → ω'.rho[n]? = some a
  keep : ∀ a o, H a = some o → a ∉ ω.rho → (∀ i ∈ M, ω.ow i ≠ some a) → H' a = some o
  tup : ∀ a xs, TupP H a xs → TupP H' a xs
  new : ∀ a, H a ≠ none → a ∉ ω.rho → a ∉ ω'.rho
  own : ∀ i a, ω'.ow i = some a → ω.ow i = some a ∨ H a = none
  av : ∀ a, ω'.av a → ω.av a ∨ H a = none ∨ ∃ i, ω.ow i = some a
  dom : ∀ a, H a ≠ none → H' a ≠ none
structure Go (ω : Wd) (H : Hp) (ω' : Wd) (H' : Hp) : Prop where
  st : GoS [] ω H ω' H'
  eq : ω'.ow = ω.ow
  ea : ω'.av = ω.av
theorem GoS.refl (M : List Nat) (ω : Wd) (H : Hp) : GoS M ω H ω H := ⟨fun _ _ h => h, fun _ _ h _ _ => h, fun _ _ h => h, fun _ _ h => h, fun _ _ h => .inl h, fun _ h => .inl h, fun _ h => h⟩
theorem Go.refl (ω : Wd) (H : Hp) : Go ω H ω H := ⟨GoS.refl _ _ _, rfl, rfl⟩
theorem GoS.trans {M : List Nat} {ω ω1 ω2 : Wd} {H H1 H2 : Hp} (a : GoS M ω H ω1 H1) (b : GoS M ω1 H1 ω2 H2) : GoS M ω H ω2 H2 where
  pre := fun n c h => b.pre n c (a.pre n c h)
  keep := fun c o h n m => by
    have h1 := a.keep c o h n m
    refine b.keep c o h1 (a.new c (by rw [h]; simp) n) fun i hi q => ?_
    rcases a.own i c q with z | z
    · exact m i hi z
    · rw [h] at z; cases z
  tup := fun c xs h => b.tup c xs (a.tup c xs h)
  new := fun c h n => b.new c (a.dom c h) (a.new c h n)
  own := fun i c h => by
    rcases b.own i c h with z | z
    · exact a.own i c z
    · right
      cases q : H c with
      | none => rfl
      | some o => exact absurd z (a.dom c (by rw [q]; simp))
  av := fun c h => by
    rcases b.av c h with z | z | ⟨i, z⟩
    · exact a.av c z
    · right
      left
      cases q : H c with
      | none => rfl
      | some o => exact absurd z (a.dom c (by rw [q]; simp))
    · rcases a.own i c z with y | y
      · exact .inr (.inr ⟨i, y⟩)
      · exact .inr (.inl y)
  dom := fun c h => b.dom c (a.dom c h)
theorem GoS.mono {M M' : List Nat} {ω ω' : Wd} {H H' : Hp} (a : GoS M ω H ω' H') (h : ∀ i ∈ M, i ∈ M') : GoS M' ω H ω' H' :=
  ⟨a.pre, fun c o q n m => a.keep c o q n fun i hi => m i (h i hi), a.tup, a.new, a.own, a.av, a.dom⟩
theorem Go.trans {ω ω1 ω2 : Wd} {H H1 H2 : Hp} (a : Go ω H ω1 H1) (b : Go ω1 H1 ω2 H2) : Go ω H ω2 H2 := ⟨a.st.trans b.st, b.eq.trans a.eq, b.ea.trans a.ea⟩
theorem Go.s {ω ω' : Wd} {H H' : Hp} (a : Go ω H ω' H') (M : List Nat) : GoS M ω H ω' H' := a.st.mono fun _ h => nomatch h

section
variable {K : PySem.W.Frag} {cl : Nat → Addr} {ω ω' : Wd} {H H' : Hp} {v : V} {d : D} {M : List Nat}
theorem GoS.bar (g : GoS M ω H ω' H') {a : Addr} (h : H a ≠ none) (n : ¬ ω.bar a) : ¬ ω'.bar a := fun z => by
  rcases z with z | ⟨i, z⟩ | z
  · exact g.new a h (fun q => n (.inl q)) z
  · rcases g.own i a z with q | q
    · exact n (.inr (.inl ⟨i, q⟩))
    · exact h q
  · rcases g.av a z with q | q | ⟨i, q⟩
    · exact n (.inr (.inr q))
    · exact h q
    · exact n (.inr (.inl ⟨i, q⟩))
theorem GoS.at (g : GoS M ω H ω' H') {a : Addr} {o : HO} (h : H a = some o) (n : ¬ ω.bar a) : H' a = some o :=
  g.keep a o h (fun q => n (.inl q)) fun i _ q => n (.inr (.inl ⟨i, q⟩))
theorem GoS.ptu (g : GoS M ω H ω' H') {a : Addr} {xs : List V} (h : PTu K H a xs) : PTu K H' a xs := by
  rcases h with h | h
  · exact .inl (g.tup a xs h)
  · exact .inr h
theorem Rd.dom {a : Addr} {o : HO} (h : Rd H a o) : H a ≠ none := by
  rcases h with h | ⟨_, h⟩ <;> (rw [h]; simp)
theorem GoS.rd (g : GoS M ω H ω' H') {a : Addr} {o : HO} (h : Rd H a o) (n : ¬ ω.bar a) : Rd H' a o := by
  rcases h with h | ⟨u, h⟩
  · exact .inl (g.at h n)
  · exact .inr ⟨u, g.at h n⟩
theorem Rep.go (r : Rep K cl ω H v d) (g : GoS M ω H ω' H') : Rep K cl ω' H' v d := by
  induction r with
  | non => exact .non
  | bl b => exact .bl b
  | int i => exact .int i
  | str x => exact .str x
  | tup h l e ih => exact .tup (g.ptu h) l ih
  | lst h n l e ih => exact .lst (g.at h n) (g.bar (by rw [h]; simp) n) l ih
  | dct h n l ek e ih => exact .dct (g.at h n) (g.bar (by rw [h]; simp) n) l ek ih
  | ins h n l ek e ih => exact .ins (g.at h n) (g.bar (by rw [h]; simp) n) l ek ih
  | obj h => exact .obj (g.pre _ _ h)
  | frz h l e ih => exact .frz (h.imp (fun ⟨o, q, n⟩ => ⟨o, g.at q n, g.bar (by rw [q]; simp) n⟩) id) l ih
theorem RepL.go {vs : List V} {ds : List D} (r : RepL K cl ω H vs ds) (g : GoS M ω H ω' H') : RepL K cl ω' H' vs ds := ⟨r.1, fun i v d h1 h2 => (r.2 i v d h1 h2).go g⟩
theorem RepK.go {κ : Type} {vs : List (κ × V)} {ds : List (κ × D)} (r : RepK K cl ω H vs ds) (g : GoS M ω H ω' H') : RepK K cl ω' H' vs ds :=
  ⟨r.1, fun i k v q d h1 h2 => ⟨(r.2 i k v q d h1 h2).1, (r.2 i k v q d h1 h2).2.go g⟩⟩
/-- Rep hangs on the store's places and on what is barred alone -/
theorem Rep.as (r : Rep K cl ω H v d) (e1 : ω'.rho = ω.rho) (e2 : ∀ a, ω'.bar a → ω.bar a) : Rep K cl ω' H v d := by
  induction r with
  | non => exact .non
  | bl b => exact .bl b
  | int i => exact .int i
  | str x => exact .str x
  | tup h l e ih => exact .tup h l ih
  | lst h n l e ih => exact .lst h (fun z => n (e2 _ z)) l ih
  | dct h n l ek e ih => exact .dct h (fun z => n (e2 _ z)) l ek ih
  | ins h n l ek e ih => exact .ins h (fun z => n (e2 _ z)) l ek ih
  | obj h => exact .obj (by rw [e1]; exact h)
  | frz h l e ih => exact .frz (h.imp (fun ⟨o, q, n⟩ => ⟨o, q, fun z => n (e2 _ z)⟩) id) l ih
theorem RepL.as {vs : List V} {ds : List D} (r : RepL K cl ω H vs ds) (e1 : ω'.rho = ω.rho) (e2 : ∀ a, ω'.bar a → ω.bar a) : RepL K cl ω' H vs ds := ⟨r.1, fun i v d h1 h2 => (r.2 i v d h1 h2).as e1 e2⟩
theorem RepK.as {κ : Type} {vs : List (κ × V)} {ds : List (κ × D)} (r : RepK K cl ω H vs ds) (e1 : ω'.rho = ω.rho) (e2 : ∀ a, ω'.bar a → ω.bar a) : RepK K cl ω' H vs ds :=
  ⟨r.1, fun i k v q d h1 h2 => ⟨(r.2 i k v q d h1 h2).1, (r.2 i k v q d h1 h2).2.as e1 e2⟩⟩
theorem RepL.nil : RepL K cl ω H [] [] := ⟨rfl, fun i v d h => by simp at h⟩
theorem RepL.cons {vs : List V} {ds : List D} (h : Rep K cl ω H v d) (r : RepL K cl ω H vs ds) : RepL K cl ω H (v :: vs) (d :: ds) := by
  refine ⟨by simp [r.1], fun i v' d' h1 h2 => ?_⟩
  cases i with
  | zero => simp at h1 h2; subst h1; subst h2; exact h
  | succ i => exact r.2 i v' d' (by simpa using h1) (by simpa using h2)
theorem RepL.head {vs : List V} {ds : List D} (r : RepL K cl ω H (v :: vs) (d :: ds)) : Rep K cl ω H v d := r.2 0 v d rfl rfl
theorem RepL.tail {vs : List V} {ds : List D} (r : RepL K cl ω H (v :: vs) (d :: ds)) : RepL K cl ω H vs ds :=
  ⟨by have := r.1; simpa using this, fun i v' d' h1 h2 => r.2 (i + 1) v' d' (by simpa using h1) (by simpa using h2)⟩
theorem RepL.at {vs : List V} {ds : List D} (r : RepL K cl ω H vs ds) {i : Nat} {d : D} (h : ds[i]? = some d) : ∃ v, vs[i]? = some v ∧ Rep K cl ω H v d := by
  have hl := r.1
  have hi : i < ds.length := by
    rcases Nat.lt_or_ge i ds.length with q | q
    · exact q
    · rw [List.getElem?_eq_none q] at h; cases h
  have hv : vs[i]? = some (vs[i]'(by omega)) := by simp
  exact ⟨_, hv, r.2 i _ d hv h⟩
theorem RepL.atV {vs : List V} {ds : List D} (r : RepL K cl ω H vs ds) {i : Nat} {v : V} (h : vs[i]? = some v) : ∃ d, ds[i]? = some d ∧ Rep K cl ω H v d := by
  have hl := r.1
  have hi : i < vs.length := by
    rcases Nat.lt_or_ge i vs.length with q | q
    · exact q
    · rw [List.getElem?_eq_none q] at h; cases h
  have hv : ds[i]? = some (ds[i]'(by omega)) := by simp
  exact ⟨_, hv, r.2 i v _ h hv⟩
theorem RepL.append {vs ws : List V} {ds es : List D} (a : RepL K cl ω H vs ds) (b : RepL K cl ω H ws es) : RepL K cl ω H (vs ++ ws) (ds ++ es) := by
  refine ⟨by simp [a.1, b.1], fun i v d h1 h2 => ?_⟩
  have hl := a.1
  by_cases hi : i < vs.length
  · rw [List.getElem?_append_left hi] at h1
    rw [List.getElem?_append_left (by omega)] at h2
    exact a.2 i v d h1 h2
  · rw [List.getElem?_append_right (by omega)] at h1
    rw [List.getElem?_append_right (by omega), ← hl] at h2
    exact b.2 _ v d h1 h2
theorem RepL.drop {vs : List V} {ds : List D} (r : RepL K cl ω H vs ds) (n : Nat) : RepL K cl ω H (vs.drop n) (ds.drop n) :=
  ⟨by simp [r.1], fun i v d h1 h2 => r.2 (n + i) v d (by simpa using h1) (by simpa using h2)⟩
theorem RepL.take {vs : List V} {ds : List D} (r : RepL K cl ω H vs ds) (n : Nat) : RepL K cl ω H (vs.take n) (ds.take n) := by
  refine ⟨by simp [r.1], fun i v d h1 h2 => ?_⟩
  rw [List.getElem?_take] at h1 h2
  split at h1
  · rename_i hi
    rw [if_pos hi] at h2
    exact r.2 i v d h1 h2
  · cases h1
theorem RepL.set {vs : List V} {ds : List D} (r : RepL K cl ω H vs ds) (h : Rep K cl ω H v d) (n : Nat) : RepL K cl ω H (vs.set n v) (ds.set n d) := by
  refine ⟨by simp [r.1], fun i v' d' h1 h2 => ?_⟩
  by_cases e : n = i
  · subst e
    have hl := r.1
    rw [List.getElem?_set] at h1 h2
    rw [if_pos rfl] at h1 h2
    split at h1
    · split at h2
      · cases h1; cases h2; exact h
      · cases h2
    · cases h1
  · rw [List.getElem?_set_ne e] at h1 h2
    exact r.2 i v' d' h1 h2
theorem Own.go {a : Addr} (r : Own K cl ω H a d) (g : GoS M ω H ω' H') (h : H' a = H a) : Own K cl ω' H' a d := by
  cases d with
  | lst ds =>
    obtain ⟨vs, q, r⟩ := r
    exact ⟨vs, h.trans q, r.go g⟩
  | dct ds =>
    obtain ⟨vs, q, r⟩ := r
    exact ⟨vs, h.trans q, r.go g⟩
  | ins c gs =>
    obtain ⟨dx, fs, q, r⟩ := r
    exact ⟨dx, fs, h.trans q, r.go g⟩
  | _ => exact r.elim
theorem Own.dom {a : Addr} (r : Own K cl ω H a d) : H a ≠ none := by
  cases d with
  | lst ds => obtain ⟨vs, q, _⟩ := r; rw [q]; simp
  | dct ds => obtain ⟨vs, q, _⟩ := r; rw [q]; simp
  | ins c gs => obtain ⟨dx, fs, q, _⟩ := r; rw [q]; simp
  | _ => exact r.elim
/-- what an own slot holds, given away -/
theorem Own.rep {a : Addr} (r : Own K cl ω H a d) (e1 : ω'.rho = ω.rho) (e2 : ∀ b, ω'.bar b → ω.bar b) (n : ¬ ω'.bar a) : Rep K cl ω' H (.ref a) d := by
  cases d with
  | lst ds =>
    obtain ⟨vs, q, r⟩ := r
    exact .lst q n r.1 (r.as e1 e2).2
  | dct ds =>
    obtain ⟨vs, q, r⟩ := r
    exact .dct q n r.1 (fun i k v q d h1 h2 => (r.2 i k v q d h1 h2).1) fun i k v q d h1 h2 => ((r.as e1 e2).2 i k v q d h1 h2).2
  | ins c gs =>
    obtain ⟨dx, fs, q, r⟩ := r
    exact .ins q n r.1 (fun i k v q d h1 h2 => (r.2 i k v q d h1 h2).1) fun i k v q d h1 h2 => ((r.as e1 e2).2 i k v q d h1 h2).2
  | _ => exact r.elim
theorem RepB.go (r : RepB K cl ω H v d) (g : Go ω H ω' H') (k : WOk ω H) : RepB K cl ω' H' v d := by
  rcases r with r | ⟨a, i, e, h, r⟩
  · exact .inl (r.go g.st)
  · refine .inr ⟨a, i, e, by rw [g.eq]; exact h, r.go g.st ?_⟩
    cases q : H a with
    | none => exact absurd q (k.ow i a h).1
    | some o => exact g.st.keep a o q (k.ow i a h).2.1 fun _ z => nomatch z
/-- a list or a tuple read -/
theorem RepB.lstH {ds : List D} (r : RepB K cl ω H v (.lst ds)) : ∃ a vs, v = .ref a ∧ H a = some (.lst vs) ∧ RepL K cl ω H vs ds := by
  rcases r with r | ⟨a, i, e, h, vs, q, r⟩
  · cases r with
    | lst h n l e => exact ⟨_, _, rfl, h, l, e⟩
  · exact ⟨a, vs, e, q, r⟩
theorem RepB.seqL {ds : List D} (r : RepB K cl ω H v (.lst ds)) : ∃ a vs, v = .ref a ∧ SqL K H a vs ∧ RepL K cl ω H vs ds := by
  obtain ⟨a, vs, e, q, r⟩ := r.lstH
  exact ⟨a, vs, e, .inl (.inl q), r⟩
theorem RepB.seqF {ds : List D} (r : RepB K cl ω H v (.frz ds)) : ∃ a vs, v = .ref a ∧ SqL K H a vs ∧ RepL K cl ω H vs ds := by
  rcases r with r | ⟨a, i, e, h, z⟩
  · cases r with
    | frz h l e =>
      refine ⟨_, _, rfl, ?_, l, e⟩
      rcases h with ⟨o, q, n⟩ | h
      · exact .inl (.inr ⟨o, q⟩)
      · rcases h with (h | ⟨o, h⟩) | h
        · cases h
        · cases h
        · exact .inr h
  · exact z.elim
theorem RepB.dctH {ds : List (Ky × D)} (r : RepB K cl ω H v (.dct ds)) : ∃ a vs, v = .ref a ∧ H a = some (.dK vs) ∧ RepK K cl ω H vs ds := by
  rcases r with r | ⟨a, i, e, h, vs, q, r⟩
  · cases r with
    | dct h n l ek e => exact ⟨_, _, rfl, h, l, fun i k v q d h1 h2 => ⟨ek i k v q d h1 h2, e i k v q d h1 h2⟩⟩
  · exact ⟨a, vs, e, q, r⟩
theorem Rep.ptu {ds : List D} (r : Rep K cl ω H v (.tup ds)) : ∃ a vs, v = .ref a ∧ PTu K H a vs ∧ RepL K cl ω H vs ds := by
  cases r with
  | tup h l e => exact ⟨_, _, rfl, h, l, e⟩
theorem Rep.seqT {ds : List D} (r : Rep K cl ω H v (.tup ds)) : ∃ a vs, v = .ref a ∧ SqT K H a vs ∧ RepL K cl ω H vs ds :=
  let ⟨a, vs, e, h, q⟩ := r.ptu
  ⟨a, vs, e, h.sqT, q⟩
theorem RepB.tup {ds : List D} (r : RepB K cl ω H v (.tup ds)) : Rep K cl ω H v (.tup ds) := by
  rcases r with r | ⟨a, i, e, h, z⟩
  · exact r
  · exact z.elim
theorem RepB.int {i : Int} (r : RepB K cl ω H v (.int i)) : v = .int i := by
  rcases r with r | ⟨a, j, e, h, z⟩
  · cases r; rfl
  · exact z.elim
theorem RepB.str {x : Str} (r : RepB K cl ω H v (.str x)) : v = .str x := by
  rcases r with r | ⟨a, j, e, h, z⟩
  · cases r; rfl
  · exact z.elim
theorem RepB.bl {b : Bool} (r : RepB K cl ω H v (.bl b)) : v = .bl b := by
  rcases r with r | ⟨a, j, e, h, z⟩
  · cases r; rfl
  · exact z.elim
theorem RepB.non (r : RepB K cl ω H v .non) : v = .non := by
  rcases r with r | ⟨a, j, e, h, z⟩
  · cases r; rfl
  · exact z.elim
end

/-! ### a new object -/
section
variable {K : PySem.W.Frag} {cl : Nat → Addr} {ω : Wd} {H : Hp} {p : Addr} {o : HO}
theorem Go.upd' (ω : Wd) (hp : H p = none) : Go ω H ω (upd H p o) := by
  refine ⟨⟨fun _ _ h => h, fun a u h n _ => ?_, fun a xs h => ?_, fun _ _ h => h, fun _ _ h => .inl h, fun _ h => .inl h, fun a h => ?_⟩, rfl, rfl⟩
  · rw [upd_ne (ne_of_none h hp)]; exact h
  · obtain ⟨u, h, hd⟩ := h
    exact ⟨u, by rw [upd_ne (ne_of_none h hp)]; exact h, hd⟩
  · by_cases e : a = p
    · subst e; exact absurd hp h
    · rw [upd_ne e]; exact h
theorem Go.upd (hp : H p = none) (k : WOk ω H) : Go ω H ω (upd H p o) := Go.upd' ω hp
theorem WOk.upd (hp : H p = none) (k : WOk ω H) : WOk ω (upd H p o) := by
  have d : ∀ a, H a ≠ none → L2.upd H p o a ≠ none := fun a h => by
    by_cases e : a = p
    · subst e; exact absurd hp h
    · rw [upd_ne e]; exact h
  exact ⟨k.nd, fun a h => d a (k.rho a h), fun i a h => ⟨d a (k.ow i a h).1, (k.ow i a h).2⟩, k.inj, fun a h => ⟨d a (k.av a h).1, (k.av a h).2⟩⟩
theorem WOk.fresh (k : WOk ω H) (hp : H p = none) : ¬ ω.bar p := fun z => k.bar z hp
end
end RF
end
section
set_option linter.all false
set_option maxRecDepth 100000
set_option maxHeartbeats 4000000
set_option autoImplicit false
/-! RfSnd1: the judgements, and operators. -/
namespace RF
open PySem PySem.Spec L2
open PyProof.Rows hiding St
section
variable (K : PySem.W.Frag) (cl : Nat → Addr)
def RepF (b : Bool) (ω : Wd) (H : Hp) (v : V) (d : D) : Prop := match b with
  | false => Rep K cl ω H v d
  | true => RepB K cl ω H v d
inductive RepFL (b : Bool) (ω : Wd) (H : Hp) : List V → List D → Prop
  | nil : RepFL b ω H [] []
  | cons {v : V} {d : D} {vs : List V} {ds : List D} (h : RepF K cl b ω H v d) (r : RepFL b ω H vs ds) : RepFL b ω H (v :: vs) (d :: ds)
structure StoOk (ω : Wd) (H : Hp) (S : Sto) : Prop where
  len : ω.rho.length = S.length
  obj : ∀ (n : Nat) (a : Addr) (d : D), ω.rho[n]? = some a → S[n]? = some d → Own K cl ω H a d
structure SR (own : List Nat) (ω : Wd) (σ : St) (H : Hp) (δ : En) (S : Sto) : Prop where
  len : σ.length = δ.length
  wok : WOk ω H
  slot : ∀ (i : Nat) (d : D), δ[i]? = some (some d) → i ∉ own → ∃ v, σ[i]? = some (some v) ∧ Rep K cl ω H v d
  osl : ∀ (i : Nat) (d : D), δ[i]? = some (some d) → i ∈ own → (∃ a, σ[i]? = some (some (.ref a)) ∧ ω.ow i = some a ∧ Own K cl ω H a d) ∨ (d.imm = true ∧ ∃ v, σ[i]? = some (some v) ∧ Rep K cl ω H v d)
  sto : StoOk K cl ω H S
variable (own : List Nat)
/-- what a run that ends so is to reach -/
def pG {α γ : Type} (R : Wd → Hp → γ → α → Prop) (ω : Wd) (H : Hp) (σ : St) (δ : En) (Q : γ → Hp → Prop) : Out α → Prop
  | .ok a S' => ∀ ω' g H', Go ω H ω' H' → SR K cl own ω' σ H' δ S' → R ω' H' g a → Q g H'
  | _ => False
def tG {α γ : Type} (R : Wd → Hp → γ → α → Prop) (f : En → M α) : St → Hp → (γ → Hp → Prop) → Prop := fun σ H Q =>
  ∃ ω δ S, SR K cl own ω σ H δ S ∧ pG K cl own R ω H σ δ Q (f δ S)
abbrev tE (b : Bool) (f : En → M D) : TE := tG K cl own (RepF K cl b) f
abbrev tT (f : En → M Bool) : TT := tG K cl own (fun _ _ (c c' : Bool) => c = c') f
abbrev tA (b : Bool) (f : En → M (List D)) : TA := tG K cl own (RepFL K cl b) f
abbrev tO (f : En → M (Option Int)) : TO := tG K cl own (fun _ _ (c c' : Option Int) => c = c') f
end
section
variable {K : PySem.W.Frag} {cl : Nat → Addr} {own : List Nat} {ω ω' ω1 : Wd} {H H' H1 : Hp} {σ : St} {δ : En} {S S' : Sto} {p : Addr} {o : HO}
theorem StoOk.go (s : StoOk K cl ω H S) (g : GoS [] ω H ω' H') (e : ω'.rho = ω.rho) (h : ∀ a ∈ ω.rho, H' a = H a) : StoOk K cl ω' H' S :=
  ⟨by rw [e]; exact s.len, fun n a d h1 h2 => by
    rw [e] at h1
    exact (s.obj n a d h1 h2).go g (h a (List.mem_of_getElem? h1))⟩
theorem SR.upd (s : SR K cl own ω σ H δ S) (hp : H p = none) : SR K cl own ω σ (L2.upd H p o) δ S := by
  have g := Go.upd (o := o) hp s.wok
  have e : ∀ a, H a ≠ none → L2.upd H p o a = H a := fun a h => upd_ne (fun z => h (by rw [z]; exact hp))
  refine ⟨s.len, s.wok.upd hp, fun i d h1 h2 => ?_, fun i d h1 h2 => ?_, s.sto.go g.st rfl fun a h => e a (s.wok.rho a h)⟩
  · obtain ⟨v, q, r⟩ := s.slot i d h1 h2
    exact ⟨v, q, r.go g.st⟩
  · rcases s.osl i d h1 h2 with ⟨a, q, r, z⟩ | ⟨hm, v, q, r⟩
    · exact .inl ⟨a, q, r, z.go g.st (e a (s.wok.ow i a r).1)⟩
    · exact .inr ⟨hm, v, q, r.go g.st⟩
theorem pG.go {α γ : Type} {R : Wd → Hp → γ → α → Prop} {Q : γ → Hp → Prop} {x : Out α} (h : pG K cl own R ω H σ δ Q x) (g : Go ω H ω1 H1) : pG K cl own R ω1 H1 σ δ Q x := by
  cases x with
  | ok a s => exact fun ω' q H' g' S' r => h ω' q H' (g.trans g') S' r
  | exc e s => exact h.elim
  | no => exact h.elim
theorem pG_bind {α β γ γ' : Type} {R : Wd → Hp → γ → α → Prop} {R' : Wd → Hp → γ' → β → Prop} {f : M α} {k : α → M β} {Q : γ' → Hp → Prop} {T : γ → Hp → Prop} (h : pG K cl own R' ω H σ δ Q ((f >>= k) S))
    (hk : ∀ (ω' : Wd) (g : γ) (H' : Hp) (a : α) (S' : Sto), Go ω H ω' H' → SR K cl own ω' σ H' δ S' → R ω' H' g a → pG K cl own R' ω' H' σ δ Q (k a S') → T g H') : pG K cl own R ω H σ δ T (f S) := by
  rw [M.bind_run] at h
  cases e : f S with
  | ok a s =>
    rw [e] at h
    exact fun ω' g H' go sr r => hk ω' g H' a s go sr r (pG.go h go)
  | exc x s => rw [e] at h; exact h.elim
  | no => rw [e] at h; exact h.elim
theorem RepF.b {b : Bool} {v : V} {d : D} (r : RepF K cl b ω H v d) : RepB K cl ω H v d := by
  cases b with
  | false => exact .inl r
  | true => exact r
theorem RepF.of {b : Bool} {v : V} {d : D} (r : Rep K cl ω H v d) : RepF K cl b ω H v d := by
  cases b with
  | false => exact r
  | true => exact .inl r
theorem RepF.go {b : Bool} {v : V} {d : D} (r : RepF K cl b ω H v d) (g : Go ω H ω' H') (k : WOk ω H) : RepF K cl b ω' H' v d := by
  cases b with
  | false => exact Rep.go r g.st
  | true => exact RepB.go r g k
theorem RepFL.go {b : Bool} {vs : List V} {ds : List D} (r : RepFL K cl b ω H vs ds) (g : Go ω H ω' H') (k : WOk ω H) : RepFL K cl b ω' H' vs ds := by
  induction r with
  | nil => exact .nil
  | cons h r ih => exact .cons (h.go g k) ih
theorem RepFL.l {vs : List V} {ds : List D} (r : RepFL K cl false ω H vs ds) : RepL K cl ω H vs ds := by
  induction r with
  | nil => exact RepL.nil
  | cons h r ih => exact RepL.cons h ih
/-- nothing happens, d is told -/
theorem pG.ret {b : Bool} {Q : VK} {v : V} {d : D} (h : pG K cl own (RepF K cl b) ω H σ δ Q (.ok d S)) (s : SR K cl own ω σ H δ S) (r : Rep K cl ω H v d) : Q v H := h ω v H (Go.refl _ _) s (RepF.of r)
/-- a new object, d is told -/
theorem pG.new {b : Bool} {Q : VK} {d : D} (h : pG K cl own (RepF K cl b) ω H σ δ Q (.ok d S)) (s : SR K cl own ω σ H δ S) (hp : H p = none)
    (r : Rep K cl ω (L2.upd H p o) (.ref p) d) : Q (.ref p) (L2.upd H p o) := h ω (.ref p) _ (Go.upd hp s.wok) (s.upd hp) (RepF.of r)
theorem RepL.upd {vs : List V} {ds : List D} (r : RepL K cl ω H vs ds) (hp : H p = none) (k : WOk ω H) : RepL K cl ω (L2.upd H p o) vs ds := r.go (Go.upd hp k).st
theorem Rep.newL {vs : List V} {ds : List D} (r : RepL K cl ω H vs ds) (hp : H p = none) (k : WOk ω H) : Rep K cl ω (L2.upd H p (.lst vs)) (.ref p) (.lst ds) :=
  .lst upd_same (k.fresh hp) r.1 (r.upd hp k).2
theorem Rep.newT {vs : List V} {ds : List D} {ob : Obj} (r : RepL K cl ω H vs ds) (hp : H p = none) (hd : ob.dict = none) (k : WOk ω H) : Rep K cl ω (L2.upd H p (.frz ob (.tup vs))) (.ref p) (.tup ds) :=
  .tup (.inl ⟨ob, upd_same, hd⟩) r.1 (r.upd hp k).2
theorem line_eq : line = sizeLine := by rw [sizeLine_eq]; rfl
end

/-- a weaker wish ahead -/
theorem _root_.L2.PE.imp {X : Cx} {e : Expr} {t t' : TE} (h : PE X e t) (k : ∀ σ H Q, t' σ H Q → t σ H Q) : PE X e t' := ⟨fun pins s σ H Q I q => h.run pins s σ H Q I (k σ H Q q)⟩
theorem _root_.L2.PT.imp {X : Cx} {e : Expr} {t t' : TT} (h : PT X e t) (k : ∀ σ H Q, t' σ H Q → t σ H Q) : PT X e t' := ⟨fun pins s σ H Q I q => h.run pins s σ H Q I (k σ H Q q)⟩
theorem _root_.L2.PW.imp {X : Cx} {e : Expr} {t t' : TT} (h : PW X e t) (k : ∀ σ H Q, t' σ H Q → t σ H Q) : PW X e t' := ⟨fun wh pins s σ H Q I q => h.run wh pins s σ H Q I (k σ H Q q)⟩
theorem _root_.L2.PA.imp {X : Cx} {es : List Expr} {t t' : TA} (h : PA X es t) (k : ∀ σ H Q, t' σ H Q → t σ H Q) : PA X es t' := ⟨fun pos pins s σ H Q I q => h.run pos pins s σ H Q I (k σ H Q q)⟩
theorem _root_.L2.PO.imp {X : Cx} {e : Option Expr} {t t' : TO} (h : PO X e t) (k : ∀ σ H Q, t' σ H Q → t σ H Q) : PO X e t' := ⟨fun pins s σ H Q I q => h.run pins s σ H Q I (k σ H Q q)⟩
theorem _root_.L2.PS.imp {X : Cx} {e : Stmt} {t t' : TS} (h : PS X e t) (k : ∀ D σ H, t' D σ H → t D σ H) : PS X e t' := ⟨fun pins s σ H D I q => h.run pins s σ H D I (k D σ H q)⟩
theorem _root_.L2.PSs.imp {X : Cx} {e : List Stmt} {t t' : TS} (h : PSs X e t) (k : ∀ D σ H, t' D σ H → t D σ H) : PSs X e t' := ⟨fun pins s σ H D I q => h.run pins s σ H D I (k D σ H q)⟩
theorem _root_.L2.PI.imp {X : Cx} {tg e : Expr} {t t' : TI} (h : PI X tg e t) (k : ∀ σ H R, t' σ H R → t σ H R) : PI X tg e t' := ⟨fun pins s σ H R I q => h.run pins s σ H R I (k σ H R q)⟩
theorem _root_.L2.PI.or {X : Cx} {tg e : Expr} {t t' : TI} (h : PI X tg e t) (h' : PI X tg e t') : PI X tg e (fun σ H R => t σ H R ∨ t' σ H R) :=
  ⟨fun pins s σ H R I q => q.elim (fun z => h.run pins s σ H R I z) fun z => h'.run pins s σ H R I z⟩
theorem _root_.L2.PE.or {X : Cx} {e : Expr} {t t' : TE} (h : PE X e t) (h' : PE X e t') : PE X e (fun σ H Q => t σ H Q ∨ t' σ H Q) :=
  ⟨fun pins s σ H Q I q => q.elim (fun z => h.run pins s σ H Q I z) fun z => h'.run pins s σ H Q I z⟩
theorem _root_.L2.PE.ex {ι : Type} {X : Cx} {e : Expr} {t : ι → TE} (h : ∀ i, PE X e (t i)) : PE X e (fun σ H Q => ∃ i, t i σ H Q) :=
  ⟨fun pins s σ H Q I q => q.elim fun i z => (h i).run pins s σ H Q I z⟩

/-! ### operators -/
section
variable {X : Cx} {cl : Nat → Addr} {own : List Nat} {ω : Wd} {H : Hp} {σ : St} {δ : En} {S : Sto}
def bopOf : Bop → Operator
  | .add => .Add | .sub => .Sub | .mul => .Mult | .fdiv => .FloorDiv | .mod => .Mod | .pow => .Pow
def rAddA (K : PySem.W.Frag) : R2 := fun x y H Q => rI0 (fun i j => .int (i + j)) x y H Q ∨ (∃ i j, x = .str i ∧ y = .str j ∧ i.length + j.length ≤ sizeLine ∧ Q (.str (i ++ j)) H) ∨ rCat x y H Q ∨ rCatF K x y H Q
def rMulA (K : PySem.W.Frag) : R2 := fun x y H Q => rI CMulW (fun i j => .int (i * j)) x y H Q ∨ rRep x y H Q ∨ rRepF K x y H Q
def rBin (K : PySem.W.Frag) : Bop → R2
  | .add => rAddA K
  | .sub => rI0 fun i j => .int (i - j)
  | .mul => rMulA K
  | .fdiv => rI CDivW fun i j => .int (i / j)
  | .mod => rI (fun _ j => 0 < j) fun i j => .int (i % j)
  | .pow => rI CPow fun i j => .int (i ^ j.toNat)
theorem op_bin (op : Bop) : OpR X (binaryOp (bopOf op)) (rBin X.K op) := by
  cases op with
  | add => exact op_add.or (op_add_str.or (op_cat.or op_catF))
  | sub => exact op_sub
  | mul => exact op_mulW.or (op_rep.or op_repF)
  | fdiv => exact op_fdivW
  | mod => exact op_mod
  | pow => exact op_pow
end
end RF
end
section
set_option linter.all false
set_option maxRecDepth 100000
set_option maxHeartbeats 4000000
set_option autoImplicit false
/-! RfSnd2: what the operators give. -/
namespace RF
open PySem PySem.Spec L2
open PyProof.Rows hiding St
mutual
theorem py_can : ∀ d : D, D.plain d = true → (D.py d).canLay0 = true
  | .non, _ => rfl
  | .bl _, _ => rfl
  | .int _, _ => rfl
  | .str x, h => h
  | .tup l, h => by
    have := pys_can l (by simpa [D.plain] using h)
    simpa [D.py, PyData.canLay0] using this
  | .lst l, h => by
    have := pys_can l (by simpa [D.plain] using h)
    simpa [D.py, PyData.canLay0] using this
  | .dct _, h => by simp [D.plain] at h
  | .ins _ _, h => by simp [D.plain] at h
  | .obj _, h => by simp [D.plain] at h
  | .frz _, h => by simp [D.plain] at h
theorem pys_can : ∀ l : List D, D.plains l = true → PyData.canLayAll0 (D.pys l) = true
  | [], _ => rfl
  | d :: r, h => by
    have h' : D.plain d = true ∧ D.plains r = true := by simpa [D.plains] using h
    simp only [D.pys, PyData.canLayAll0, py_can d h'.1, pys_can r h'.2, Bool.and_self]
end
mutual
theorem py_depth : ∀ d : D, D.plain d = true → (D.py d).depth = D.deep d
  | .non, _ => rfl
  | .bl _, _ => rfl
  | .int _, _ => rfl
  | .str x, h => rfl
  | .tup l, h => by
    have := pys_depth l (by simpa [D.plain] using h)
    simp only [D.py, PyData.depth, D.deep, this]
  | .lst l, h => by
    have := pys_depth l (by simpa [D.plain] using h)
    simp only [D.py, PyData.depth, D.deep, this]
  | .dct _, h => by simp [D.plain] at h
  | .ins _ _, h => by simp [D.plain] at h
  | .obj _, h => by simp [D.plain] at h
  | .frz _, h => by simp [D.plain] at h
theorem pys_depth : ∀ l : List D, D.plains l = true → PyData.depthAll (D.pys l) = D.deeps l
  | [], _ => rfl
  | d :: r, h => by
    have h' : D.plain d = true ∧ D.plains r = true := by simpa [D.plains] using h
    simp only [D.pys, PyData.depthAll, D.deeps, py_depth d h'.1, pys_depth r h'.2]
end
theorem py_shaped {d : D} (h : D.plain d = true) (k : D.deep d ≤ 60) : SeqAt.shaped (D.py d) = true := by
  unfold SeqAt.shaped
  rw [py_can d h, py_depth d h]
  simp
  omega
mutual
theorem py_eqv : ∀ d e : D, D.plain d = true → D.plain e = true → PyData.eqv (D.py d) (D.py e) = D.eqv d e
  | .tup l, e, h, k => by
    cases e with
    | tup m =>
      have := pys_eqv l m (by simpa [D.plain] using h) (by simpa [D.plain] using k)
      simpa only [D.py, PyData.eqv, D.eqv] using this
    | dct _ => simp [D.plain] at k
    | ins _ _ => simp [D.plain] at k
    | obj _ => simp [D.plain] at k
    | frz _ => simp [D.plain] at k
    | _ => simp [D.py, PyData.eqv, D.eqv]
  | .lst l, e, h, k => by
    cases e with
    | lst m =>
      have := pys_eqv l m (by simpa [D.plain] using h) (by simpa [D.plain] using k)
      simpa only [D.py, PyData.eqv, D.eqv] using this
    | dct _ => simp [D.plain] at k
    | ins _ _ => simp [D.plain] at k
    | obj _ => simp [D.plain] at k
    | frz _ => simp [D.plain] at k
    | _ => simp [D.py, PyData.eqv, D.eqv]
  | .non, e, _, k => by cases e <;> first | (simp [D.plain] at k; done) | simp [D.py, PyData.eqv, D.eqv]
  | .bl _, e, _, k => by cases e <;> first | (simp [D.plain] at k; done) | simp [D.py, PyData.eqv, D.eqv]
  | .int _, e, _, k => by cases e <;> first | (simp [D.plain] at k; done) | simp [D.py, PyData.eqv, D.eqv]
  | .str _, e, _, k => by cases e <;> first | (simp [D.plain] at k; done) | simp [D.py, PyData.eqv, D.eqv]
  | .dct _, _, h, _ => by simp [D.plain] at h
  | .ins _ _, _, h, _ => by simp [D.plain] at h
  | .obj _, _, h, _ => by simp [D.plain] at h
  | .frz _, _, h, _ => by simp [D.plain] at h
theorem pys_eqv : ∀ l m : List D, D.plains l = true → D.plains m = true → PyData.eqvAll (D.pys l) (D.pys m) = D.eqvs l m
  | [], [], _, _ => by simp [D.pys, PyData.eqvAll, D.eqvs]
  | [], _ :: _, _, _ => by simp [D.pys, PyData.eqvAll, D.eqvs]
  | _ :: _, [], _, _ => by simp [D.pys, PyData.eqvAll, D.eqvs]
  | d :: r, e :: t, h, k => by
    have h' : D.plain d = true ∧ D.plains r = true := by simpa [D.plains] using h
    have k' : D.plain e = true ∧ D.plains t = true := by simpa [D.plains] using k
    simp only [D.pys, PyData.eqvAll, D.eqvs, py_eqv d e h'.1 k'.1, pys_eqv r t h'.2 k'.2]
end
section
variable {K : PySem.W.Frag} {cl : Nat → Addr} {ω : Wd} {H : Hp} {v : V} {d : D}
theorem dpAll {vs : List V} : ∀ {ds : List D}, vs.length = ds.length → D.plains ds = true → (∀ (i : Nat) (v : V) (d : D), vs[i]? = some v → ds[i]? = some d → D.plain d = true → Dp K H v (D.py d)) → DpAll K H vs (D.pys ds) := by
  induction vs with
  | nil =>
    intro ds l _ _
    cases ds with
    | nil => exact .nil
    | cons _ _ => simp at l
  | cons v vs ih =>
    intro ds l p f
    cases ds with
    | nil => simp at l
    | cons d ds =>
      have p' : D.plain d = true ∧ D.plains ds = true := by simpa [D.plains] using p
      exact .cons (f 0 v d rfl rfl p'.1) (ih (by simpa using l) p'.2 fun i v' d' h1 h2 => f (i + 1) v' d' (by simpa using h1) (by simpa using h2))
theorem Rep.dp (r : Rep K cl ω H v d) (h : D.plain d = true) : Dp K H v (D.py d) := by
  induction r with
  | non => exact .non
  | bl b => exact .bl b
  | int i => exact .int i
  | str x => exact .str x
  | tup q l e ih => exact .tup q.sqT (dpAll l (by simpa [D.plain] using h) fun i v d h1 h2 h3 => ih i v d h1 h2 h3)
  | lst q n l e ih => exact .lst (.inl (.inl q)) (dpAll l (by simpa [D.plain] using h) fun i v d h1 h2 h3 => ih i v d h1 h2 h3)
  | dct q n l ek e ih => simp [D.plain] at h
  | ins q n l ek e ih => simp [D.plain] at h
  | obj q => simp [D.plain] at h
  | frz q l e ih => simp [D.plain] at h
theorem RepB.dp (r : RepB K cl ω H v d) (h : D.plain d = true) : Dp K H v (D.py d) := by
  rcases r with r | ⟨a, i, e, q, z⟩
  · exact r.dp h
  · cases d with
    | lst ds =>
      obtain ⟨vs, z, r⟩ := z
      subst e
      exact .lst (.inl (.inl z)) (dpAll r.1 (by simpa [D.plain] using h) fun i v d h1 h2 h3 => (r.2 i v d h1 h2).dp h3)
    | dct _ => simp [D.plain] at h
    | ins _ _ => simp [D.plain] at h
    | _ => exact z.elim
theorem Rep.flat (r : Rep K cl ω H v d) (h : D.flat d = true) : flatV v = true := by
  cases r <;> first | rfl | (cases h; done)
theorem RepL.flat {vs : List V} {ds : List D} (r : RepL K cl ω H vs ds) (h : ds.all D.flat = true) : vs.all flatV = true := by
  rw [List.all_eq_true] at h ⊢
  intro v hv
  obtain ⟨i, hi⟩ := List.getElem?_of_mem hv
  obtain ⟨d, hd, q⟩ := r.atV hi
  exact q.flat (h d (List.mem_of_getElem? hd))
theorem Rep.eqV {w : V} {e : D} (r : Rep K cl ω H v d) (q : Rep K cl ω H w e) (h : D.flat d = true) (k : D.flat e = true) : L2.eqV v w = D.eqv d e := by
  cases r <;> first
    | (cases h; done)
    | (cases q <;> first
        | (cases k; done)
        | simp [L2.eqV, D.eqv])
theorem any_rep {w : V} {e : D} (q : Rep K cl ω H w e) (k : D.flat e = true) : ∀ {vs : List V} {ds : List D}, RepL K cl ω H vs ds → ds.all D.flat = true → vs.any (fun y => L2.eqV y w) = ds.any fun y => D.eqv y e := by
  intro vs
  induction vs with
  | nil =>
    intro ds r _
    cases ds with
    | nil => rfl
    | cons _ _ => have := r.1; simp at this
  | cons v vs ih =>
    intro ds r h
    cases ds with
    | nil => have := r.1; simp at this
    | cons d ds =>
      have h' : D.flat d = true ∧ ds.all D.flat = true := by simpa using h
      rw [List.any_cons, List.any_cons, ih r.tail h'.2, r.head.eqV q h'.1 k]
end

/-! ### the rules -/
section
variable {X : Cx} {K : PySem.W.Frag} {cl : Nat → Addr} {own : List Nat} {ω : Wd} {H : Hp} {σ : St} {δ : En} {S : Sto} {x y : V} {d e : D} {Q : VK}
theorem bin_ok {b : Bool} (op : Bop) (s : SR K cl own ω σ H δ S) (rx : RepB K cl ω H x d) (ry : RepB K cl ω H y e) (h : pG K cl own (RepF K cl b) ω H σ δ Q (binD op d e S)) : rBin K op x y H Q := by
  cases op with
  | add =>
    cases d with
    | int i =>
      cases e with
      | int j => exact .inl ⟨i, j, rx.int, ry.int, h.ret s (.int _)⟩
      | _ => exact h.elim
    | str i =>
      cases e with
      | str j =>
        by_cases hz : i.length + j.length ≤ line
        · simp only [binD, if_pos hz] at h
          exact .inr (.inl ⟨i, j, rx.str, ry.str, by rw [← line_eq]; exact hz, h.ret s (.str _)⟩)
        · simp only [binD, if_neg hz] at h
          exact h.elim
      | _ => exact h.elim
    | lst i =>
      cases e with
      | lst j =>
        by_cases hz : i.length + j.length ≤ line
        · simp only [binD, if_pos hz] at h
          obtain ⟨a, vs, rfl, ha, ra⟩ := rx.lstH
          obtain ⟨c, ws, rfl, hc, rc⟩ := ry.lstH
          exact .inr (.inr (.inl ⟨a, c, vs, ws, rfl, rfl, ha, hc, by rw [← line_eq, ra.1, rc.1]; exact hz, fun p hp => h.new s hp (Rep.newL (ra.append rc) hp s.wok)⟩))
        · simp only [binD, if_neg hz] at h
          exact h.elim
      | _ => exact h.elim
    | tup i =>
      cases e with
      | tup j =>
        by_cases hz : i.length + j.length ≤ line
        · simp only [binD, if_pos hz] at h
          have qx := rx.tup
          have qy := ry.tup
          obtain ⟨a, vs, rfl, ha, ra⟩ := qx.seqT
          obtain ⟨c, ws, rfl, hc, rc⟩ := qy.seqT
          refine .inr (.inr (.inr ⟨a, c, vs, ws, rfl, rfl, ha, hc, by rw [← line_eq, ra.1, rc.1]; exact hz, fun z => ?_, fun _ z => ?_, fun _ _ p ob hp hd => h.new s hp (Rep.newT (ra.append rc) hp hd s.wok)⟩))
          · have e0 : i = [] := by have := ra.1; rw [z] at this; exact List.length_eq_zero_iff.mp this.symm
            subst e0
            exact h.ret s qy
          · have e0 : j = [] := by have := rc.1; rw [z] at this; exact List.length_eq_zero_iff.mp this.symm
            subst e0
            rw [List.append_nil] at h
            exact h.ret s qx
        · simp only [binD, if_neg hz] at h
          exact h.elim
      | _ => exact h.elim
    | _ => exact h.elim
  | sub =>
    cases d with
    | int i =>
      cases e with
      | int j => exact ⟨i, j, rx.int, ry.int, h.ret s (.int _)⟩
      | _ => exact h.elim
    | _ => exact h.elim
  | mul =>
    cases d with
    | int i =>
      cases e with
      | int j =>
        by_cases hz : mulOk i j = true
        · simp only [binD, if_pos hz] at h
          exact .inl ⟨i, j, rx.int, ry.int, (show i.natAbs.log2 + j.natAbs.log2 < 1000000 by simpa [mulOk] using hz), h.ret s (.int _)⟩
        · simp only [binD, if_neg hz] at h
          exact h.elim
      | _ => exact h.elim
    | lst i =>
      cases e with
      | int j =>
        by_cases hz : i.length * j.toNat ≤ 1000000 ∧ j < 1000000 ∧ -1000000 < j
        · simp only [binD, if_pos hz] at h
          obtain ⟨a, vs, rfl, ha, ra⟩ := rx.lstH
          have lz : (1000000 : Nat) ≤ sizeLine := by rw [sizeLine_eq]; decide
          refine .inr (.inl ⟨a, j, vs, rfl, ry.int, ha, by omega, by omega, by rw [ra.1]; omega, fun p hp => h.new s hp (Rep.newL ?_ hp s.wok)⟩)
          generalize j.toNat = n
          induction n with
          | zero => exact RepL.nil
          | succ n ih => exact ra.append ih
        · simp only [binD, if_neg hz] at h
          exact h.elim
      | _ => exact h.elim
    | tup i =>
      cases e with
      | int j =>
        by_cases hz : i.length ≠ 0 ∧ 2 ≤ j ∧ j ≤ 1000 ∧ i.length ≤ 1000
        · simp only [binD, if_pos hz] at h
          obtain ⟨a, vs, rfl, ha, ra⟩ := rx.tup.seqT
          refine .inr (.inr ⟨a, j, vs, rfl, ry.int, ha, fun z => hz.1 (by rw [← ra.1, z]; rfl), hz.2.1, hz.2.2.1, by rw [ra.1]; exact hz.2.2.2, fun p ob hp hd => h.new s hp (Rep.newT ?_ hp hd s.wok)⟩)
          generalize j.toNat = n
          induction n with
          | zero => exact RepL.nil
          | succ n ih => exact ra.append ih
        · simp only [binD, if_neg hz] at h
          exact h.elim
      | _ => exact h.elim
    | _ => exact h.elim
  | fdiv =>
    cases d with
    | int i =>
      cases e with
      | int j =>
        by_cases hz : divOk j = true
        · simp only [binD, if_pos hz] at h
          have z : 0 < j ∧ j.natAbs.log2 < 9000 := by simpa [divOk] using hz
          exact ⟨i, j, rx.int, ry.int, z, h.ret s (.int _)⟩
        · simp only [binD, if_neg hz] at h
          exact h.elim
      | _ => exact h.elim
    | _ => exact h.elim
  | mod =>
    cases d with
    | int i =>
      cases e with
      | int j =>
        by_cases hz : 0 < j
        · simp only [binD, if_pos hz] at h
          exact ⟨i, j, rx.int, ry.int, hz, h.ret s (.int _)⟩
        · simp only [binD, if_neg hz] at h
          exact h.elim
      | _ => exact h.elim
    | _ => exact h.elim
  | pow =>
    cases d with
    | int i =>
      cases e with
      | int j =>
        by_cases hz : powOk i j = true
        · simp only [binD, if_pos hz] at h
          have z : 0 ≤ j ∧ j ≤ 1000000 ∧ i.natAbs < 2 ^ 64 := by simpa [powOk] using hz
          exact ⟨i, j, rx.int, ry.int, z, h.ret s (.int _)⟩
        · simp only [binD, if_neg hz] at h
          exact h.elim
      | _ => exact h.elim
    | _ => exact h.elim
end
end RF
end
section
set_option linter.all false
set_option maxRecDepth 100000
set_option maxHeartbeats 4000000
set_option autoImplicit false
/-! RfSnd3: comparisons, items, slices. -/
namespace RF
open PySem PySem.Spec L2
open PyProof.Rows hiding St

/-! ### pairs of a dict -/
section
variable {K : PySem.W.Frag} {cl : Nat → Addr} {ω : Wd} {H : Hp}
theorem RepK.tail {κ : Type} {p : κ × V} {q : κ × D} {vs : List (κ × V)} {ds : List (κ × D)} (r : RepK K cl ω H (p :: vs) (q :: ds)) : RepK K cl ω H vs ds :=
  ⟨by have := r.1; simpa using this, fun i k v j d h1 h2 => r.2 (i + 1) k v j d (by simpa using h1) (by simpa using h2)⟩
theorem RepK.head {κ : Type} {p : κ × V} {q : κ × D} {vs : List (κ × V)} {ds : List (κ × D)} (r : RepK K cl ω H (p :: vs) (q :: ds)) : p.1 = q.1 ∧ Rep K cl ω H p.2 q.2 := r.2 0 p.1 p.2 q.1 q.2 rfl rfl
theorem RepK.nil {κ : Type} : RepK K cl ω H ([] : List (κ × V)) ([] : List (κ × D)) := ⟨rfl, fun i k v q d h => by simp at h⟩
theorem RepK.cons {κ : Type} {p : κ × V} {q : κ × D} {vs : List (κ × V)} {ds : List (κ × D)} (e : p.1 = q.1) (h : Rep K cl ω H p.2 q.2) (r : RepK K cl ω H vs ds) : RepK K cl ω H (p :: vs) (q :: ds) := by
  refine ⟨by simp [r.1], fun i k v j d h1 h2 => ?_⟩
  cases i with
  | zero => simp at h1 h2; subst h1; subst h2; exact ⟨e, h⟩
  | succ i => exact r.2 i k v j d (by simpa using h1) (by simpa using h2)
theorem RepK.cases_on {κ : Type} {vs : List (κ × V)} {ds : List (κ × D)} (r : RepK K cl ω H vs ds) : (vs = [] ∧ ds = []) ∨ ∃ p q vr dr, vs = p :: vr ∧ ds = q :: dr ∧ p.1 = q.1 ∧ Rep K cl ω H p.2 q.2 ∧ RepK K cl ω H vr dr := by
  cases vs with
  | nil => cases ds with
    | nil => exact .inl ⟨rfl, rfl⟩
    | cons _ _ => have := r.1; simp at this
  | cons p vr => cases ds with
    | nil => have := r.1; simp at this
    | cons q dr => exact .inr ⟨p, q, vr, dr, rfl, rfl, r.head.1, r.head.2, r.tail⟩
theorem RepK.val (k : Ky) : ∀ {vs : List (Key × V)} {ds : List (Ky × D)}, RepK K cl ω H vs ds → (valV vs k = none ∧ dget ds k = none) ∨ ∃ v d, valV vs k = some v ∧ dget ds k = some d ∧ Rep K cl ω H v d := by
  intro vs
  induction vs with
  | nil =>
    intro ds r
    rcases r.cases_on with ⟨_, rfl⟩ | ⟨p, q, vr, dr, e, _⟩
    · exact .inl ⟨rfl, rfl⟩
    · cases e
  | cons p vs ih =>
    intro ds r
    rcases r.cases_on with ⟨e, _⟩ | ⟨p', q, vr, dr, e, rfl, e1, r1, r2⟩
    · cases e
    · cases e
      obtain ⟨q1, q2⟩ := q
      unfold dget
      by_cases z : q1 = k
      · rw [if_pos z, valV_pos (e1.trans z)]
        exact .inr ⟨_, _, rfl, rfl, r1⟩
      · rw [if_neg z, valV_neg (fun y => z (e1.symm.trans y))]
        exact ih r2
theorem putK_cons (p : Key × V) (r : List (Key × V)) (k : Key) (v : V) (hn : ¬ p.1 = k) : putK (p :: r) k v = p :: putK r k v := by
  unfold putK
  simp only [List.any_cons, hn, decide_false, Bool.false_or, List.map_cons, if_false]
  split <;> rfl
theorem putK_other : ∀ (r : List (Key × V)) (k : Key) (v : V), (∀ p ∈ r, ¬ p.1 = k) → (r.map fun kv => if kv.1 = k then (kv.1, v) else kv) = r := by
  intro r k v h
  induction r with
  | nil => rfl
  | cons p r ih => rw [List.map_cons, if_neg (h p List.mem_cons_self), ih fun q hq => h q (List.mem_cons_of_mem _ hq)]
theorem RepK.keys {κ : Type} : ∀ {vs : List (κ × V)} {ds : List (κ × D)}, RepK K cl ω H vs ds → vs.map (·.1) = ds.map (·.1) := by
  intro vs
  induction vs with
  | nil =>
    intro ds r
    rcases r.cases_on with ⟨_, rfl⟩ | ⟨p, q, vr, dr, e, _⟩
    · rfl
    · cases e
  | cons p vs ih =>
    intro ds r
    rcases r.cases_on with ⟨e, _⟩ | ⟨p', q, vr, dr, e, rfl, e1, r1, r2⟩
    · cases e
    · cases e
      rw [List.map_cons, List.map_cons, e1, ih r2]
theorem RepK.any {k : Ky} : ∀ {vs : List (Key × V)} {ds : List (Ky × D)}, RepK K cl ω H vs ds → (vs.any fun p => decide (p.1 = k)) = (ds.any fun p => decide (p.1 = k)) := by
  intro vs
  induction vs with
  | nil =>
    intro ds r
    rcases r.cases_on with ⟨_, rfl⟩ | ⟨p, q, vr, dr, e, _⟩
    · rfl
    · cases e
  | cons p vs ih =>
    intro ds r
    rcases r.cases_on with ⟨e, _⟩ | ⟨p', q, vr, dr, e, rfl, e1, r1, r2⟩
    · cases e
    · cases e
      rw [List.any_cons, List.any_cons, ih r2, e1]
theorem RepK.map {k : Ky} {v : V} {d : D} (rv : Rep K cl ω H v d) : ∀ {vs : List (Key × V)} {ds : List (Ky × D)}, RepK K cl ω H vs ds → RepK K cl ω H (vs.map fun p => if p.1 = k then (p.1, v) else p) (ds.map fun p => if p.1 = k then (p.1, d) else p) := by
  intro vs
  induction vs with
  | nil =>
    intro ds r
    rcases r.cases_on with ⟨_, rfl⟩ | ⟨p, q, vr, dr, e, _⟩
    · exact RepK.nil
    · cases e
  | cons p vs ih =>
    intro ds r
    rcases r.cases_on with ⟨e, _⟩ | ⟨p', q, vr, dr, e, rfl, e1, r1, r2⟩
    · cases e
    · cases e
      rw [List.map_cons, List.map_cons]
      by_cases z : p.1 = k
      · rw [if_pos z, if_pos (by rw [← e1]; exact z)]
        exact RepK.cons e1 rv (ih r2)
      · rw [if_neg z, if_neg (by rw [← e1]; exact z)]
        exact RepK.cons e1 r1 (ih r2)
theorem RepK.append {vs ws : List (Key × V)} {ds es : List (Ky × D)} (a : RepK K cl ω H vs ds) (b : RepK K cl ω H ws es) : RepK K cl ω H (vs ++ ws) (ds ++ es) := by
  refine ⟨by simp [a.1, b.1], fun i k v q d h1 h2 => ?_⟩
  have hl := a.1
  by_cases hi : i < vs.length
  · rw [List.getElem?_append_left hi] at h1
    rw [List.getElem?_append_left (by omega)] at h2
    exact a.2 i k v q d h1 h2
  · rw [List.getElem?_append_right (by omega)] at h1
    rw [List.getElem?_append_right (by omega), ← hl] at h2
    exact b.2 _ k v q d h1 h2
theorem RepK.put {k : Ky} {v : V} {d : D} (rv : Rep K cl ω H v d) {vs : List (Key × V)} {ds : List (Ky × D)} (r : RepK K cl ω H vs ds) : RepK K cl ω H (putK vs k v) (dput ds k d) := by
  unfold putK dput
  have e := r.any (k := k)
  by_cases z : (ds.any fun p => decide (p.1 = k)) = true
  · rw [if_pos z, if_pos (by rw [← z, ← e])]
    exact r.map rv
  · rw [if_neg z, if_neg (by rw [e]; exact z)]
    exact r.append (RepK.cons rfl rv RepK.nil)
end

/-! ### comparisons -/
section
variable {X : Cx}
def copOf : Cop → CmpOp
  | .eq => .Eq | .ne => .NotEq | .lt => .Lt | .le => .LtE | .gt => .Gt | .ge => .GtE | .isN => .Is | .notN => .IsNot | .inn => .In | .nin => .NotIn
/-- == of two dicts, value by value as data -/
def rDct (K : PySem.W.Frag) (f : Bool → Bool) : R2 := fun x y H Q => ∃ a b ks ls r, x = .ref a ∧ y = .ref b ∧ H a = some (.dK ks) ∧ H b = some (.dK ls) ∧
  (∀ (A : Around) (s : Shared) (va vb : List (Key × Value)), A.units + 64 < cLine → KV ks va → KV ls vb → (∀ v u d e, RelV v u → Dp K H v d → SeqAt.shaped d = true → ∀ v' u', RelV v' u' → Dp K H v' e → SeqAt.shaped e = true → SeqAt.EqAt A s u u' (PyData.eqv d e)) → PySem.W.KeqHits A s vb va r) ∧
  Q (.bl (f (ks.length == ls.length && r))) H
theorem eqAt_dp {pins : List (Addr × Obj)} {σ : St} {H : Hp} {s : Shared} (I : Inv X pins σ H s) {A : Around} (hu : A.units + 64 < cLine) : ∀ v u d e, RelV v u → Dp X.K H v d → SeqAt.shaped d = true → ∀ v' u', RelV v' u' → Dp X.K H v' e → SeqAt.shaped e = true → SeqAt.EqAt A s u u' (PyData.eqv d e) := by
  intro v u d e r p z v' u' r' p' z'
  obtain ⟨as, q⟩ := p.reads I d v u r
  obtain ⟨bs, q'⟩ := p'.reads I e v' u' r'
  exact SeqAt.eqAt_reads d e A s u u' as bs q q' (SeqAt.canLay_of_shaped z) (SeqAt.canLay_of_shaped z') (SeqAt.room_of_shaped z hu)
theorem op_dctEq (hu : X.A.units + 128 < cLine) : OpR X (compareOp .Eq) (rDct X.K id) := by
  intro pins s σ H x y v u Q I rx ry h
  obtain ⟨a, b, ks, ls, r, rfl, rfl, ea, eb, hh, q⟩ := h
  cases rx
  cases ry
  obtain ⟨_, ya, va, ra, da⟩ := (show ObjOk X.prog X.w H s.heap a (.dK ks) from I.hok a _ ea)
  obtain ⟨_, yb, vb, rb, db⟩ := (show ObjOk X.prog X.w H s.heap b (.dK ls) from I.hok b _ eb)
  have hu1 : X.A.in1.units + 64 < cLine := by
    have : X.A.in1.units = X.A.units + 1 := rfl
    omega
  refine PySem.W.keq_eq (knd := mixKind X.prog X.w) (r := r) ya yb da db (by omega) (fun _ => hh _ s va vb hu1 ra rb (eqAt_dp I hu1)) (fin_bl I q ?_)
  rw [ra.length, rb.length]
  rfl
theorem op_dctNe (hu : X.A.units + 128 < cLine) : OpR X (compareOp .NotEq) (rDct X.K not) := by
  intro pins s σ H x y v u Q I rx ry h
  obtain ⟨a, b, ks, ls, r, rfl, rfl, ea, eb, hh, q⟩ := h
  cases rx
  cases ry
  obtain ⟨_, ya, va, ra, da⟩ := (show ObjOk X.prog X.w H s.heap a (.dK ks) from I.hok a _ ea)
  obtain ⟨_, yb, vb, rb, db⟩ := (show ObjOk X.prog X.w H s.heap b (.dK ls) from I.hok b _ eb)
  have hu1 : X.A.in1.units + 64 < cLine := by
    have : X.A.in1.units = X.A.units + 1 := rfl
    omega
  refine PySem.W.keq_ne (knd := mixKind X.prog X.w) (r := r) ya yb da db (by omega) (fun _ => hh _ s va vb hu1 ra rb (eqAt_dp I hu1)) (fin_bl I q ?_)
  rw [ra.length, rb.length]
def rDin (f : Bool → Bool) : R2 := fun x y H Q => ∃ a o, y = .ref a ∧ DGet H a x o ∧ Q (.bl (f o.isSome)) H
theorem op_din (hu : X.A.units + 1 < cLine) : OpR X (compareOp .In) (rDin id) := by
  intro pins s σ H x y v u Q I rx ry h
  obtain ⟨a, o, rfl, g, q⟩ := h
  cases ry
  exact d_in hu I g rx fun s' I' => ⟨.bl _, H, I', rfl, q⟩
theorem op_dnin (hu : X.A.units + 1 < cLine) : OpR X (compareOp .NotIn) (rDin not) := by
  intro pins s σ H x y v u Q I rx ry h
  obtain ⟨a, o, rfl, g, q⟩ := h
  cases ry
  exact d_notIn hu I g rx fun s' I' => ⟨.bl _, H, I', rfl, q⟩
def rSgn (f : Bool → Bool) : R2 := fun x y H Q => ∃ (c : Nat) (z : Str), x = .str ⟨#[c]⟩ ∧ y = .str z ∧ Q (.bl (f (decide (c ∈ z.cps.toList)))) H
def rLt : R2 := fun x y H Q => rI0 (fun i j => .bl (decide (i < j))) x y H Q ∨ ∃ i j, x = .str i ∧ y = .str j ∧ Q (.bl (decide (i.cps.toList < j.cps.toList))) H
def rCmp (K : PySem.W.Frag) : Cop → R2
  | .eq => fun x y H Q => rEq x y H Q ∨ rEqD K x y H Q ∨ rDct K id x y H Q
  | .ne => fun x y H Q => rNe x y H Q ∨ rNeD K x y H Q ∨ rDct K not x y H Q
  | .lt => rLt
  | .le => rI0 fun i j => .bl (decide (i ≤ j))
  | .gt => rI0 fun i j => .bl (decide (j < i))
  | .ge => rI0 fun i j => .bl (decide (j ≤ i))
  | .isN => fun x y H Q => y = .non ∧ Q (.bl (decide (x = .non))) H
  | .notN => fun x y H Q => y = .non ∧ Q (.bl (!decide (x = .non))) H
  | .inn => fun x y H Q => rIn K false x y H Q ∨ rSgn id x y H Q ∨ rDin id x y H Q
  | .nin => fun x y H Q => rIn K true x y H Q ∨ rSgn not x y H Q ∨ rDin not x y H Q
theorem op_cmp (hu : X.A.units + 128 < cLine) (op : Cop) : OpR X (compareOp (copOf op)) (rCmp X.K op) := by
  cases op with
  | eq => exact op_eq.or ((op_eqD (by omega)).or (op_dctEq hu))
  | ne => exact op_ne.or ((op_neD (by omega)).or (op_dctNe hu))
  | lt => exact op_lt.or op_lt_str
  | le => exact op_le
  | gt => exact op_gt
  | ge => exact op_ge
  | isN => exact op_isN
  | notN => exact op_notN
  | inn => exact op_in_seq.or (OpR.or op_in_sign (op_din (by omega)))
  | nin => exact op_notIn_seq.or (OpR.or op_notIn_sign (op_dnin (by omega)))
variable {K : PySem.W.Frag} {cl : Nat → Addr} {own : List Nat} {ω : Wd} {H : Hp} {σ : St} {δ : En} {S : Sto} {x y : V} {d e : D} {Q : VK}
theorem okEq_of {a b : D} (h : okEq a b = true) : (D.plain a = true ∧ D.deep a ≤ 60) ∧ D.plain b = true ∧ D.deep b ≤ 60 := by
  simpa [okEq] using h
theorem RepB.notNon (r : RepB K cl ω H x d) : decide (x = V.non) = d.isNon := by
  rcases r with r | ⟨a, i, rfl, _, z⟩
  · cases r <;> simp [D.isNon]
  · cases d <;> first | exact z.elim | simp [D.isNon]
theorem dct_hits {ks ls : List (Key × V)} {l m : List (Ky × D)} (rl : RepK K cl ω H ks l) (rm : RepK K cl ω H ls m) (hl : plainV l = true) (hm : plainV m = true) (A : Around) (s : Shared) {vb : List (Key × Value)} (rb : KV ls vb)
    (f : ∀ v u d e, RelV v u → Dp K H v d → SeqAt.shaped d = true → ∀ v' u', RelV v' u' → Dp K H v' e → SeqAt.shaped e = true → SeqAt.EqAt A s u u' (PyData.eqv d e)) :
    ∀ {va : List (Key × Value)}, KV ks va → PySem.W.KeqHits A s vb va (l.all fun p => (match dget m p.1 with
      | some v => D.eqv p.2 v
      | none => false)) := by
  induction ks generalizing l with
  | nil =>
    intro va ra
    rcases rl.cases_on with ⟨_, rfl⟩ | ⟨p, q, vr, dr, e, _⟩
    · cases ra; exact .nil
    · cases e
  | cons p ks ih =>
    intro va ra
    rcases rl.cases_on with ⟨e, _⟩ | ⟨p', q, vr, dr, e, rfl, e1, r1, r2⟩
    · cases e
    · cases e
      obtain ⟨p1, p2⟩ := p
      obtain ⟨q1, q2⟩ := q
      simp only at e1
      subst e1
      cases ra with
      | @cons _ u _ us r3 r4 =>
      obtain ⟨u1, u2⟩ := u
      obtain ⟨e3, r3⟩ := r3
      simp only at e3
      subst e3
      have hq : (D.plain q2 = true ∧ D.deep q2 ≤ 60) ∧ plainV dr = true := by
        simpa [plainV] using hl
      rw [List.all_cons]
      rcases rm.val p1 with ⟨z1, z2⟩ | ⟨v, d, z1, z2, rv⟩
      · simp only [z2, Bool.false_and]
        refine .miss ?_
        have := rb.val p1
        rw [z1] at this
        exact RelO.none_of this
      · simp only [z2]
        have hvb := rb.val p1
        rw [z1] at hvb
        obtain ⟨y, hy, ry⟩ := RelO.some_of hvb
        have hd : D.plain d = true ∧ D.deep d ≤ 60 := by
          have hm' := List.all_eq_true.mp hm
          have mem : ∀ (m : List (Ky × D)), dget m p1 = some d → ∃ p ∈ m, p.2 = d := by
            intro m
            induction m with
            | nil => intro h; cases h
            | cons c m ihm =>
              intro h
              unfold dget at h
              split at h
              · cases h; exact ⟨_, List.mem_cons_self, rfl⟩
              · obtain ⟨c', h1, h2⟩ := ihm h; exact ⟨c', List.mem_cons_of_mem _ h1, h2⟩
          obtain ⟨c, hc, rfl⟩ := mem m z2
          simpa using hm' c hc
        have := f p2 u2 (D.py q2) (D.py d) r3 (r1.dp hq.1.1) (py_shaped hq.1.1 hq.1.2) v y ry (rv.dp hd.1) (py_shaped hd.1 hd.2)
        rw [py_eqv q2 d hq.1.1 hd.1] at this
        exact .hit hy this (ih r2 hq.2 r4)
theorem eq_gen {b : Bool} (f : Bool → Bool) (s : SR K cl own ω σ H δ S) (rx : RepB K cl ω H x d) (ry : RepB K cl ω H y e) (h : pG K cl own (RepF K cl b) ω H σ δ Q ((if okEq d e = true then (pure (.bl (f (D.eqv d e))) : M D) else M.no) S)) :
    ∃ d' e', Dp K H x d' ∧ Dp K H y e' ∧ SeqAt.shaped d' = true ∧ SeqAt.shaped e' = true ∧ Q (.bl (f (PyData.eqv d' e'))) H := by
  by_cases hz : okEq d e = true
  · rw [if_pos hz] at h
    obtain ⟨⟨p1, p2⟩, p3, p4⟩ := okEq_of hz
    refine ⟨_, _, rx.dp p1, ry.dp p3, py_shaped p1 p2, py_shaped p3 p4, ?_⟩
    rw [py_eqv d e p1 p3]
    exact h.ret s (.bl _)
  · rw [if_neg hz] at h
    exact h.elim
theorem dct_gen {b : Bool} (f : Bool → Bool) {l m : List (Ky × D)} (s : SR K cl own ω σ H δ S) (rx : RepB K cl ω H x (.dct l)) (ry : RepB K cl ω H y (.dct m)) (h : pG K cl own (RepF K cl b) ω H σ δ Q ((if (plainV l && plainV m) = true then (pure (.bl (f (dctEq l m))) : M D) else M.no) S)) :
    rDct K f x y H Q := by
  by_cases hz : (plainV l && plainV m) = true
  · rw [if_pos hz] at h
    obtain ⟨h1, h2⟩ := Bool.and_eq_true_iff.mp hz
    obtain ⟨a, ks, rfl, ha, ra⟩ := rx.dctH
    obtain ⟨c, ls, rfl, hc, rc⟩ := ry.dctH
    refine ⟨a, c, ks, ls, _, rfl, rfl, ha, hc, fun A t va vb hu r1 r2 g => dct_hits ra rc h1 h2 A t r2 g r1, ?_⟩
    have := h.ret s (.bl _)
    unfold dctEq at this
    rw [ra.1, rc.1]
    exact this
  · rw [if_neg hz] at h
    exact h.elim
theorem in_ok {b : Bool} (f : Bool → Bool) {neg : Bool} (hf : ∀ c, f c = if neg then !c else c) (s : SR K cl own ω σ H δ S) (rx : RepB K cl ω H x d) (ry : RepB K cl ω H y e)
    (h : pG K cl own (RepF K cl b) ω H σ δ Q (match inD S d e with
      | some r => .ok (.bl (f r)) S
      | none => .no)) : rIn K neg x y H Q ∨ rSgn f x y H Q ∨ rDin f x y H Q := by
  have flatx : D.flat d = true → Rep K cl ω H x d := fun z => by
    rcases rx with r | ⟨a, i, rfl, _, z'⟩
    · exact r
    · cases d <;> first | exact z'.elim | cases z
  cases e with
  | lst l =>
    simp only [inD] at h
    by_cases hz : (D.flat d && l.all D.flat) = true
    · rw [if_pos hz] at h
      obtain ⟨h1, h2⟩ := Bool.and_eq_true_iff.mp hz
      obtain ⟨a, vs, rfl, ha, ra⟩ := ry.seqL
      have r := flatx h1
      refine .inl ⟨a, vs, rfl, .inl ha, r.flat h1, ra.flat h2, ?_⟩
      have e1 : inV x vs = l.any fun y => D.eqv y d := any_rep r h1 ra h2
      have := h.ret s (.bl _)
      rw [hf] at this
      rw [e1]
      cases neg <;> exact this
    · rw [if_neg hz] at h
      exact h.elim
  | tup l =>
    simp only [inD] at h
    by_cases hz : (D.flat d && l.all D.flat) = true
    · rw [if_pos hz] at h
      obtain ⟨h1, h2⟩ := Bool.and_eq_true_iff.mp hz
      obtain ⟨a, vs, rfl, ha, ra⟩ := ry.tup.seqT
      have r := flatx h1
      refine .inl ⟨a, vs, rfl, .inr ha, r.flat h1, ra.flat h2, ?_⟩
      have e1 : inV x vs = l.any fun y => D.eqv y d := any_rep r h1 ra h2
      have := h.ret s (.bl _)
      rw [hf] at this
      rw [e1]
      cases neg <;> exact this
    · rw [if_neg hz] at h
      exact h.elim
  | str z =>
    cases d with
    | str w =>
      simp only [inD] at h
      split at h
      · rename_i r hr
        split at hr
        · rename_i c hc
          cases hr
          obtain rfl := ry.str
          obtain rfl := rx.str
          have ew : w = ⟨#[c]⟩ := by
            cases w with
            | mk cps =>
              simp only at hc
              congr 1
              exact Array.ext' (by simpa using hc)
          exact .inr (.inl ⟨c, z, by rw [ew], rfl, h.ret s (.bl _)⟩)
        · cases hr
      · exact h.elim
    | _ => exact h.elim
  | dct l =>
    obtain ⟨a, ks, rfl, ha, ra⟩ := ry.dctH
    have go : ∀ k : Ky, x = kV k → inD S d (.dct l) = some (hasKey l k) → rDin f x (.ref a) H Q := fun k ex hk => by
      rw [hk] at h
      refine ⟨a, valV ks k, rfl, by rw [ex]; exact DGet.k ha, ?_⟩
      have := h.ret s (.bl _)
      have e2 : (valV ks k).isSome = hasKey l k := by
        unfold hasKey
        rcases ra.val k with ⟨z1, z2⟩ | ⟨v, d, z1, z2, _⟩ <;> rw [z1, z2] <;> rfl
      rw [e2]
      exact this
    cases d with
    | str w => exact .inr (.inr (go (.inr w) rx.str rfl))
    | int i => exact .inr (.inr (go (.inl i) rx.int rfl))
    | _ => exact h.elim
  | _ => exact h.elim
theorem cmp_ok {b : Bool} (op : Cop) (s : SR K cl own ω σ H δ S) (rx : RepB K cl ω H x d) (ry : RepB K cl ω H y e) (h : pG K cl own (RepF K cl b) ω H σ δ Q (cmpD op d e S)) : rCmp K op x y H Q := by
  cases op with
  | eq =>
    cases d with
    | dct l => cases e with
      | dct m => exact .inr (.inr (dct_gen id s rx ry h))
      | _ => exact .inr (.inl (eq_gen id s rx ry h))
    | str i => cases e with
      | str j => exact .inl ⟨by rw [rx.str, ry.str]; rfl, by
          rw [rx.str, ry.str]
          have := h.ret s (.bl _)
          simpa using this⟩
      | _ => exact .inr (.inl (eq_gen id s rx ry h))
    | _ => exact .inr (.inl (eq_gen id s rx ry h))
  | ne =>
    cases d with
    | dct l => cases e with
      | dct m => exact .inr (.inr (dct_gen not s rx ry h))
      | _ => exact .inr (.inl (eq_gen not s rx ry h))
    | str i => cases e with
      | str j => exact .inl ⟨by rw [rx.str, ry.str]; rfl, by
          rw [rx.str, ry.str]
          have := h.ret s (.bl _)
          simpa using this⟩
      | _ => exact .inr (.inl (eq_gen not s rx ry h))
    | _ => exact .inr (.inl (eq_gen not s rx ry h))
  | lt =>
    cases d with
    | int i => cases e with
      | int j => exact .inl ⟨i, j, rx.int, ry.int, h.ret s (.bl _)⟩
      | _ => exact h.elim
    | str i => cases e with
      | str j => exact .inr ⟨i, j, rx.str, ry.str, h.ret s (.bl _)⟩
      | _ => exact h.elim
    | _ => exact h.elim
  | le =>
    cases d with
    | int i => cases e with
      | int j => exact ⟨i, j, rx.int, ry.int, h.ret s (.bl _)⟩
      | _ => exact h.elim
    | _ => exact h.elim
  | gt =>
    cases d with
    | int i => cases e with
      | int j => exact ⟨i, j, rx.int, ry.int, h.ret s (.bl _)⟩
      | _ => exact h.elim
    | _ => exact h.elim
  | ge =>
    cases d with
    | int i => cases e with
      | int j => exact ⟨i, j, rx.int, ry.int, h.ret s (.bl _)⟩
      | _ => exact h.elim
    | _ => exact h.elim
  | isN =>
    cases e with
    | non =>
      refine ⟨ry.non, ?_⟩
      rw [rx.notNon]
      exact h.ret s (.bl _)
    | _ => exact h.elim
  | notN =>
    cases e with
    | non =>
      refine ⟨ry.non, ?_⟩
      rw [rx.notNon]
      exact h.ret s (.bl _)
    | _ => exact h.elim
  | inn => exact in_ok id (neg := false) (fun _ => rfl) s rx ry h
  | nin => exact in_ok not (neg := true) (fun _ => rfl) s rx ry h
end
end RF
end
section
set_option linter.all false
set_option maxRecDepth 100000
set_option maxHeartbeats 4000000
set_option autoImplicit false
/-! RfSnd4: expressions. -/
namespace RF
open PySem PySem.Spec L2
open PyProof.Rows hiding St

structure Cs where
  N : List Str
  sc : Scope
  own : List Nat
  fb : Str → Bool
structure XOk (P : Program) (w : World) (K : PySem.W.Frag) (mg : Str → Option Value) (base : Heap) (C : Cs) (k : Nat) (X : Cx) : Prop where
  prog : X.prog = P
  w : X.w = w
  K : X.K = K
  mg : X.mg = mg
  base : X.base = base
  N : X.N = C.N
  nd : C.N.Nodup
  sc : X.env.scope = C.sc
  calm : X.calm = true
  room : Room (k + 1) X.A
  fb : ∀ x, C.fb x = true → X.fn x = true
/-- no set display, no starred, no slice -/
def okShape : Expr → Bool
  | .Set .. => false
  | .Starred .. => false
  | .Slice .. => false
  | _ => true
theorem shape_mark {e : Expr} (h : okShape e = true) (op : CmpOp) : behindInMarks op e = false := by
  cases e <;> first | rfl | cases h
theorem shape_star {e : Expr} {es : List Expr} {env : Env} (h : okShape e = true) : starEach (e :: es) env = (false, eval e env) :: starEach es env := by
  cases e <;> first | rfl | cases h
theorem shape_ix {e : Expr} (h : okShape e = true) : PlainIx e := by
  intro o i
  cases e <;> first | rfl | cases h
theorem shape_fold {e : Expr} (h : okShape e = true) (env : Env) : ∀ x, foldedSetIterable e env x = pure x := by
  intro x
  cases e <;> first | rfl | cases h
/-- no comprehension -/
def okSw : Expr → Bool
  | .ListComp .. => false
  | .SetComp .. => false
  | .DictComp .. => false
  | _ => true
/-- as a test it is its value's truth -/
def plainT : Expr → Bool
  | .UnaryOp .Not _ _ => false
  | .BoolOp .. => false
  | .IfExp .. => false
  | .Compare .. => false
  | _ => true
theorem plainT_is {e : Expr} (h : plainT e = true) {env : Env} : ∀ whole, PySem.isTrue e env whole = (do let v ← whole; standAt e.pos; holding [v] (truthy v)) := by
  intro whole
  cases e with
  | UnaryOp op _ _ => cases op <;> first | rfl | cases h
  | _ => first | rfl | cases h

section
variable {K : PySem.W.Frag} {cl : Nat → Addr} {own : List Nat} {X : Cx}
/-- the same by another function -/
theorem tG_congr {α γ : Type} {R : Wd → Hp → γ → α → Prop} {f g : En → M α} (e : ∀ δ S, f δ S = g δ S) {σ : L2.St} {H : Hp} {Q : γ → Hp → Prop} (h : tG K cl own R g σ H Q) : tG K cl own R f σ H Q := by
  obtain ⟨ω, δ, S, s, q⟩ := h
  exact ⟨ω, δ, S, s, by rw [e]; exact q⟩
theorem PE.b {e : Expr} {f : En → M D} (h : PE X e (tE K cl own true f)) (b : Bool) : PE X e (tE K cl own b f) → PE X e (tE K cl own b f) := id
/-- what may be given away may be read -/
theorem pe_up {e : Expr} {f : En → M D} (h : PE X e (tE K cl own false f)) (b : Bool) : PE X e (tE K cl own b f) := by
  refine h.imp fun σ H Q ⟨ω, δ, S, s, q⟩ => ⟨ω, δ, S, s, ?_⟩
  cases e : f δ S with
  | ok d S' => rw [e] at q; exact fun ω' v H' g s' r => q ω' v H' g s' (RepF.of r)
  | exc _ _ => rw [e] at q; exact q.elim
  | no => rw [e] at q; exact q.elim

/-! ### names, constants -/
theorem re_var {i : Nat} {x : Str} {pos : Pos} {b : Bool} (hN : X.N[i]? = some x) (hv : Vis X.env.scope x) (hd : (x == ("__debug__" : Str)) = false) (hcd : (x == ("__classdict__" : Str)) = false) (ho : i ∈ own → b = true) :
    PE X (.Name x pos) (tE K cl own b fun δ => getV δ i) := by
  refine (pe_var hN hv hd hcd).imp fun σ H Q ⟨ω, δ, S, s, q⟩ => ?_
  change pG K cl own (RepF K cl b) ω H σ δ Q (getV δ i S) at q
  unfold getV at q
  cases e : δ[i]? with
  | none => rw [e] at q; exact q.elim
  | some o =>
    cases o with
    | none => rw [e] at q; exact q.elim
    | some d =>
      rw [e] at q
      by_cases hi : i ∈ own
      · have hb := ho hi
        subst hb
        rcases s.osl i d e hi with ⟨a, h1, h2, h3⟩ | ⟨_, v, h1, h2⟩
        · exact ⟨_, h1, q ω _ H (Go.refl _ _) s (.inr ⟨a, i, rfl, h2, h3⟩)⟩
        · exact ⟨v, h1, pG.ret q s h2⟩
      · obtain ⟨v, h1, h2⟩ := s.slot i d e hi
        exact ⟨v, h1, pG.ret q s h2⟩
theorem re_vim {i : Nat} {x : Str} {pos : Pos} {b : Bool} (hN : X.N[i]? = some x) (hv : Vis X.env.scope x) (hd : (x == ("__debug__" : Str)) = false) (hcd : (x == ("__classdict__" : Str)) = false) :
    PE X (.Name x pos) (tE K cl own b fun δ => do
      let d ← getV δ i
      if d.imm = true then pure d else M.no) := by
  refine (pe_var hN hv hd hcd).imp fun σ H Q ⟨ω, δ, S, s, q⟩ => ?_
  dsimp only at q
  rw [M.bind_run] at q
  unfold getV at q
  cases e : δ[i]? with
  | none => rw [e] at q; exact q.elim
  | some o =>
    cases o with
    | none => rw [e] at q; exact q.elim
    | some d =>
      rw [e] at q
      simp only [M.pure_run] at q
      by_cases hm : d.imm = true
      case neg => rw [if_neg hm] at q; exact q.elim
      rw [if_pos hm] at q
      have fin : ∀ v, Rep K cl ω H v d → Q v H := fun v r => pG.ret q s r
      by_cases hi : i ∈ own
      · rcases s.osl i d e hi with ⟨a, h1, h2, h3⟩ | ⟨_, v, h1, h2⟩
        · cases d <;> first | exact h3.elim | exact absurd hm (by simp [D.imm])
        · exact ⟨v, h1, fin v h2⟩
      · obtain ⟨v, h1, h2⟩ := s.slot i d e hi
        exact ⟨v, h1, fin v h2⟩
theorem re_cst {e : Expr} {v : V} {d : D} {b : Bool} (h : PE X e (tC v)) (r : ∀ ω H, Rep K cl ω H v d) : PE X e (tE K cl own b fun _ => pure d) :=
  h.imp fun σ H Q ⟨ω, δ, S, s, q⟩ => pG.ret q s (r ω H)

/-! ### lists of expressions -/
theorem ra_nil {b : Bool} : PA X [] (tA K cl own b fun _ => pure []) := pa_nil.imp fun σ H Q ⟨ω, δ, S, s, q⟩ => q ω [] H (Go.refl _ _) s .nil
theorem ra_cons {e : Expr} {es : List Expr} {b : Bool} {f : En → M D} {g : En → M (List D)} (he : PE X e (tE K cl own b f)) (hr : PA X es (tA K cl own b g)) (hs : okShape e = true) :
    PA X (e :: es) (tA K cl own b fun δ => do let x ← f δ; let l ← g δ; pure (x :: l)) := by
  refine (pa_cons he hr (shape_star hs)).imp fun σ H Q ⟨ω, δ, S, s, q⟩ => ?_
  refine ⟨ω, δ, S, s, pG_bind q fun ω1 v H1 x S1 g1 s1 r1 q1 => ?_⟩
  refine ⟨ω1, δ, S1, s1, pG_bind q1 fun ω2 vs H2 l S2 g2 s2 r2 q2 => ?_⟩
  exact q2 ω2 _ H2 (Go.refl _ _) s2 (.cons (r1.go g2 s1.wok) r2)

/-! ### operators -/
theorem re_bin {a c : Expr} {op : Bop} {pos : Pos} {f g : En → M D} {b : Bool} (ha : PE X a (tE X.K cl own true f)) (hc : PE X c (tE X.K cl own true g)) :
    PE X (.BinOp a (bopOf op) c pos) (tE X.K cl own b fun δ => do let x ← f δ; let y ← g δ; binD op x y) := by
  refine (pe_op (op_bin op) ha hc).imp fun σ H Q ⟨ω, δ, S, s, q⟩ => ?_
  refine ⟨ω, δ, S, s, pG_bind q fun ω1 v H1 x S1 g1 s1 r1 q1 => ?_⟩
  refine ⟨ω1, δ, S1, s1, pG_bind q1 fun ω2 u H2 y S2 g2 s2 r2 q2 => ?_⟩
  exact bin_ok op s2 (RepB.go r1 g2 s1.wok) r2 q2
theorem re_neg {a : Expr} {pos : Pos} {f : En → M D} {b : Bool} (ha : PE X a (tE K cl own true f)) :
    PE X (.UnaryOp .USub a pos) (tE K cl own b fun δ => do
      match ← f δ with
      | .int i => pure (.int (-i))
      | _ => M.no) := by
  refine (pe_un un_neg ha).imp fun σ H Q ⟨ω, δ, S, s, q⟩ => ?_
  refine ⟨ω, δ, S, s, pG_bind q fun ω1 v H1 x S1 g1 s1 r1 q1 => ?_⟩
  cases x with
  | int i => exact ⟨i, RepB.int r1, pG.ret q1 s1 (.int _)⟩
  | _ => exact q1.elim
theorem hu_cmp {k : Nat} {A : Around} (r : Room k A) : A.units + 128 < cLine := by
  have := r.un
  omega
theorem re_cmp {a c : Expr} {op : Cop} {pos : Pos} {f g : En → M D} {b : Bool} {k : Nat} (hr : Room k X.A) (hs : okShape c = true) (ha : PE X a (tE X.K cl own true f)) (hc : PE X c (tE X.K cl own true g)) :
    PE X (.Compare a [copOf op] [c] pos) (tE X.K cl own b fun δ => do let x ← f δ; let y ← g δ; cmpD op x y) := by
  refine (pe_cmpR (op_cmp (hu_cmp hr) op) ha hc (shape_mark hs _)).imp fun σ H Q ⟨ω, δ, S, s, q⟩ => ?_
  refine ⟨ω, δ, S, s, pG_bind q fun ω1 v H1 x S1 g1 s1 r1 q1 => ?_⟩
  refine ⟨ω1, δ, S1, s1, pG_bind q1 fun ω2 u H2 y S2 g2 s2 r2 q2 => ?_⟩
  exact cmp_ok op s2 (RepB.go r1 g2 s1.wok) r2 q2
/-- a value that is a bool, for a test -/
theorem asB_out {ω : Wd} {H : Hp} {σ : L2.St} {δ : En} {S : Sto} {Q : Bool → Hp → Prop} {v : V} {d : D} (s : SR K cl own ω σ H δ S) (r : RepB K cl ω H v d) (q : pG K cl own (fun _ _ (c c' : Bool) => c = c') ω H σ δ Q (asB d S)) : ∃ k, v = .bl k ∧ Q k H := by
  cases d with
  | bl k => exact ⟨k, r.bl, q ω k H (Go.refl _ _) s rfl⟩
  | _ => exact q.elim
theorem rt_cmp {a c : Expr} {op : Cop} {pos : Pos} {f g : En → M D} {k : Nat} (hr : Room k X.A) (hs : okShape c = true) (ha : PE X a (tE X.K cl own true f)) (hc : PE X c (tE X.K cl own true g)) :
    PT X (.Compare a [copOf op] [c] pos) (tT X.K cl own fun δ => do asB (← (do let x ← f δ; let y ← g δ; cmpD op x y))) := by
  refine (pt_cmpR (op_cmp (hu_cmp hr) op) ha hc (shape_mark hs _)).imp fun σ H Q ⟨ω, δ, S, s, q⟩ => ?_
  have q' : pG X.K cl own (fun _ _ (c c' : Bool) => c = c') ω H σ δ Q ((f δ >>= fun x => g δ >>= fun y => cmpD op x y >>= asB) S) := by
    have e : ((do asB (← (do let x ← f δ; let y ← g δ; cmpD op x y))) : M Bool) S = (f δ >>= fun x => g δ >>= fun y => cmpD op x y >>= asB) S := by
      simp only [M.bind_run]
      cases f δ S with
      | ok x S1 =>
        simp only
        cases g δ S1 <;> rfl
      | _ => rfl
    rw [← e]
    exact q
  refine ⟨ω, δ, S, s, pG_bind q' fun ω1 v H1 x S1 g1 s1 r1 q1 => ?_⟩
  refine ⟨ω1, δ, S1, s1, pG_bind q1 fun ω2 u H2 y S2 g2 s2 r2 q2 => ?_⟩
  refine cmp_ok (b := false) op s2 (RepB.go r1 g2 s1.wok) r2 ?_
  exact pG_bind q2 fun ω3 z H3 d S3 g3 s3 r3 q3 => asB_out s3 (RepF.b r3) q3
theorem rt_val {e : Expr} {f : En → M D} (h : PE X e (tE K cl own true f)) (hp : plainT e = true) : PT X e (tT K cl own fun δ => do asB (← f δ)) := by
  refine (pt_val h (plainT_is hp)).imp fun σ H Q ⟨ω, δ, S, s, q⟩ => ?_
  exact ⟨ω, δ, S, s, pG_bind q fun ω1 v H1 x S1 g1 s1 r1 q1 => asB_out s1 r1 q1⟩
end
end RF
end
section
set_option linter.all false
set_option maxRecDepth 100000
set_option maxHeartbeats 4000000
set_option autoImplicit false
/-! RfSnd5: expressions: and, or, not, if, displays, items, slices, isinstance, f-strings. -/
namespace RF
open PySem PySem.Spec L2
open PyProof.Rows hiding St

section
variable {K : PySem.W.Frag} {cl : Nat → Addr} {own : List Nat} {X : Cx} {a c e : Expr} {es rest : List Expr} {pos : Pos} {f g h : En → M D} {t u : En → M Bool} {b : Bool}

/-! ### tests -/
theorem rt_not (ha : PT X a (tT K cl own t)) : PT X (.UnaryOp .Not a pos) (tT K cl own fun δ => do pure (!(← t δ))) := by
  refine (pt_not ha).imp fun σ H Q ⟨ω, δ, S, s, q⟩ => ?_
  exact ⟨ω, δ, S, s, pG_bind q fun ω1 v H1 x S1 g1 s1 r1 q1 => by subst r1; exact q1 ω1 _ H1 (Go.refl _ _) s1 rfl⟩
theorem re_not (ha : PE X a (tE K cl own true f)) : PE X (.UnaryOp .Not a pos) (tE K cl own b fun δ => do pure (.bl (!(← asB (← f δ))))) := by
  refine (pe_not ha).imp fun σ H Q ⟨ω, δ, S, s, q⟩ => ?_
  refine ⟨ω, δ, S, s, pG_bind (k := fun x => asB x >>= fun k => (Pure.pure (D.bl (!k)) : M D)) q fun ω1 v H1 x S1 g1 s1 r1 q1 => ?_⟩
  cases x with
  | bl k => exact ⟨k, RepB.bl r1, pG.ret q1 s1 (.bl _)⟩
  | _ => exact q1.elim
theorem rt_ite (hc : PT X c (tT K cl own t)) (ha : PT X a (tT K cl own u)) {u' : En → M Bool} (he : PT X e (tT K cl own u')) : PT X (.IfExp c a e pos) (tT K cl own fun δ => do if ← t δ then u δ else u' δ) := by
  refine ⟨fun pins s0 σ H Q I hw => ?_⟩
  obtain ⟨ω, δ, S, s, q⟩ := hw
  have hc' := hc.run pins s0 σ H (fun k H1 => if k = true then tT K cl own u σ H1 Q else tT K cl own u' σ H1 Q) I ⟨ω, δ, S, s, pG_bind q fun ω1 v H1 x S1 g1 s1 r1 q1 => by
    subst r1
    cases v with
    | true => exact ⟨ω1, δ, S1, s1, q1⟩
    | false => exact ⟨ω1, δ, S1, s1, q1⟩⟩
  show wpAny (model X.prog X.w) X.A (do if ← PySem.isTrue c X.env (eval c X.env) then PySem.isTrue a X.env (eval a X.env) else PySem.isTrue e X.env (eval e X.env)) _ _ s0
  refine wpAny_bind (thn hc' fun k s1 ⟨H1, I1, q1⟩ => ?_)
  cases k with
  | true => exact ha.run pins s1 σ H1 Q I1 q1
  | false => exact he.run pins s1 σ H1 Q I1 q1
theorem re_ite (hc : PT X c (tT K cl own t)) (ha : PE X a (tE K cl own b f)) (he : PE X e (tE K cl own b g)) : PE X (.IfExp c a e pos) (tE K cl own b fun δ => do if ← t δ then f δ else g δ) := by
  refine (pe_ifExp hc ha he).imp fun σ H Q ⟨ω, δ, S, s, q⟩ => ?_
  refine ⟨ω, δ, S, s, pG_bind q fun ω1 v H1 x S1 g1 s1 r1 q1 => ?_⟩
  subst r1
  cases v with
  | true => exact ⟨ω1, δ, S1, s1, q1⟩
  | false => exact ⟨ω1, δ, S1, s1, q1⟩
theorem rw_and1 (ha : PT X a (tT K cl own t)) : PW X (.BoolOp .And [a] pos) (tT K cl own fun δ => do if ← t δ then pure true else pure false) := by
  refine (pw_and1 ha).imp fun σ H Q ⟨ω, δ, S, s, q⟩ => ⟨ω, δ, S, s, pG_bind q fun ω1 v H1 x S1 g1 s1 r1 q1 => ?_⟩
  subst r1
  cases v <;> exact q1 ω1 _ H1 (Go.refl _ _) s1 rfl
theorem rw_and (ha : PT X a (tT K cl own t)) (hb : PW X (.BoolOp .And (c :: rest) pos) (tT K cl own u)) : PW X (.BoolOp .And (a :: c :: rest) pos) (tT K cl own fun δ => do if ← t δ then u δ else pure false) := by
  refine (pw_and ha hb).imp fun σ H Q ⟨ω, δ, S, s, q⟩ => ⟨ω, δ, S, s, pG_bind q fun ω1 v H1 x S1 g1 s1 r1 q1 => ?_⟩
  subst r1
  cases v with
  | true => exact ⟨ω1, δ, S1, s1, q1⟩
  | false => exact q1 ω1 _ H1 (Go.refl _ _) s1 rfl
theorem rw_or1 (ha : PT X a (tT K cl own t)) : PW X (.BoolOp .Or [a] pos) (tT K cl own fun δ => do if ← t δ then pure true else pure false) := by
  refine (pw_or1 ha).imp fun σ H Q ⟨ω, δ, S, s, q⟩ => ⟨ω, δ, S, s, pG_bind q fun ω1 v H1 x S1 g1 s1 r1 q1 => ?_⟩
  subst r1
  cases v <;> exact q1 ω1 _ H1 (Go.refl _ _) s1 rfl
theorem rw_or (ha : PT X a (tT K cl own t)) (hb : PW X (.BoolOp .Or (c :: rest) pos) (tT K cl own u)) : PW X (.BoolOp .Or (a :: c :: rest) pos) (tT K cl own fun δ => do if ← t δ then pure true else u δ) := by
  refine (pw_or ha hb).imp fun σ H Q ⟨ω, δ, S, s, q⟩ => ⟨ω, δ, S, s, pG_bind q fun ω1 v H1 x S1 g1 s1 r1 q1 => ?_⟩
  subst r1
  cases v with
  | true => exact q1 ω1 _ H1 (Go.refl _ _) s1 rfl
  | false => exact ⟨ω1, δ, S1, s1, q1⟩
/-- .. as values -/
def bB (t : En → M Bool) : En → M D := fun δ => do pure (.bl (← t δ))
theorem pG_bl {ω : Wd} {H : Hp} {σ : L2.St} {δ : En} {S : Sto} {Q : VK} (q : pG K cl own (RepF K cl b) ω H σ δ Q (bB t δ S)) : pG K cl own (fun _ _ (c c' : Bool) => c = c') ω H σ δ (fun k H' => Q (.bl k) H') (t δ S) := by
  unfold bB at q
  exact pG_bind q fun ω1 v H1 x S1 g1 s1 r1 q1 => by subst r1; exact pG.ret q1 s1 (.bl _)
theorem bl_pG {ω : Wd} {H : Hp} {σ : L2.St} {δ : En} {S : Sto} {Q : VK} (q : pG K cl own (fun _ _ (c c' : Bool) => c = c') ω H σ δ (fun k H' => Q (.bl k) H') (t δ S)) : pG K cl own (RepF K cl b) ω H σ δ Q (bB t δ S) := by
  have e1 : bB t δ S = (match t δ S with
    | .ok a s' => .ok (.bl a) s'
    | .exc e s' => .exc e s'
    | .no => .no) := by
    unfold bB
    rw [M.bind_run]
    cases t δ S <;> rfl
  rw [e1]
  cases e : t δ S with
  | ok k S1 =>
    rw [e] at q
    intro ω1 v H1 g1 s1 r1
    have hv : v = .bl k := (RepF.b r1).bl
    subst hv
    exact q ω1 k H1 g1 s1 rfl
  | exc _ _ => rw [e] at q; exact q.elim
  | no => rw [e] at q; exact q.elim
theorem re_and1 (ha : PE X a (tE K cl own true f)) : PE X (.BoolOp .And [a] pos) (tE K cl own b (bB fun δ => do if ← asB (← f δ) then pure true else pure false)) := by
  refine (pe_one ha).imp fun σ H Q ⟨ω, δ, S, s, q⟩ => ⟨ω, δ, S, s, ?_⟩
  refine pG_bind (k := fun x => asB x >>= fun k => if k = true then pure true else pure false) (pG_bl q) fun ω1 v H1 x S1 g1 s1 r1 q1 => ?_
  cases x with
  | bl k =>
    rw [RepB.bl r1]
    cases k <;> exact q1 ω1 _ H1 (Go.refl _ _) s1 rfl
  | _ => exact q1.elim
theorem re_or1 (ha : PE X a (tE K cl own true f)) : PE X (.BoolOp .Or [a] pos) (tE K cl own b (bB fun δ => do if ← asB (← f δ) then pure true else pure false)) := by
  refine (pe_one ha).imp fun σ H Q ⟨ω, δ, S, s, q⟩ => ⟨ω, δ, S, s, ?_⟩
  refine pG_bind (k := fun x => asB x >>= fun k => if k = true then pure true else pure false) (pG_bl q) fun ω1 v H1 x S1 g1 s1 r1 q1 => ?_
  cases x with
  | bl k =>
    rw [RepB.bl r1]
    cases k <;> exact q1 ω1 _ H1 (Go.refl _ _) s1 rfl
  | _ => exact q1.elim
theorem re_and (ha : PE X a (tE K cl own true f)) (hb : PE X (.BoolOp .And (c :: rest) pos) (tE K cl own b (bB u))) : PE X (.BoolOp .And (a :: c :: rest) pos) (tE K cl own b (bB fun δ => do if ← asB (← f δ) then u δ else pure false)) := by
  refine (pe_and ha hb).imp fun σ H Q ⟨ω, δ, S, s, q⟩ => ⟨ω, δ, S, s, ?_⟩
  refine pG_bind (k := fun x => asB x >>= fun k => if k = true then u δ else pure false) (pG_bl q) fun ω1 v H1 x S1 g1 s1 r1 q1 => ?_
  cases x with
  | bl k =>
    refine ⟨k, RepB.bl r1, ?_⟩
    cases k with
    | true => exact ⟨ω1, δ, S1, s1, bl_pG q1⟩
    | false => exact q1 ω1 _ H1 (Go.refl _ _) s1 rfl
  | _ => exact q1.elim
theorem re_or (ha : PE X a (tE K cl own true f)) (hb : PE X (.BoolOp .Or (c :: rest) pos) (tE K cl own b (bB u))) : PE X (.BoolOp .Or (a :: c :: rest) pos) (tE K cl own b (bB fun δ => do if ← asB (← f δ) then pure true else u δ)) := by
  refine (pe_or ha hb).imp fun σ H Q ⟨ω, δ, S, s, q⟩ => ⟨ω, δ, S, s, ?_⟩
  refine pG_bind (k := fun x => asB x >>= fun k => if k = true then pure true else u δ) (pG_bl q) fun ω1 v H1 x S1 g1 s1 r1 q1 => ?_
  cases x with
  | bl k =>
    refine ⟨k, RepB.bl r1, ?_⟩
    cases k with
    | true => exact q1 ω1 _ H1 (Go.refl _ _) s1 rfl
    | false => exact ⟨ω1, δ, S1, s1, bl_pG q1⟩
  | _ => exact q1.elim
theorem re_chain {op op' : Cop} {d : Expr} {k : Nat} (hr : Room k X.A) (hs : okShape d = true) (ha : PE X a (tE X.K cl own true f)) (hc : PE X c (tE X.K cl own true g)) (hd : PE X d (tE X.K cl own true h)) :
    PE X (.Compare a [copOf op, copOf op'] [c, d] pos) (tE X.K cl own b fun δ => do
      let x ← f δ
      let y ← g δ
      let k ← asB (← cmpD op x y)
      if k then do
        let z ← h δ
        cmpD op' y z
      else pure (.bl false)) := by
  refine (pe_chain (op_cmp (hu_cmp hr) op) (op_cmp (hu_cmp hr) op') ha hc hd (shape_mark hs _)).imp fun σ H Q ⟨ω, δ, S, s, q⟩ => ?_
  refine ⟨ω, δ, S, s, pG_bind q fun ω1 v H1 x S1 g1 s1 r1 q1 => ?_⟩
  refine ⟨ω1, δ, S1, s1, pG_bind q1 fun ω2 w H2 y S2 g2 s2 r2 q2 => ?_⟩
  refine cmp_ok (b := false) op s2 (RepB.go r1 g2 s1.wok) r2 (pG_bind (k := fun z => asB z >>= fun k => if k = true then h δ >>= fun z => cmpD op' y z else pure (.bl false)) q2 fun ω3 z H3 d S3 g3 s3 r3 q3 => ?_)
  cases d with
  | bl k =>
    refine ⟨k, (RepF.b r3).bl, ?_⟩
    cases k with
    | true =>
      refine ⟨ω3, δ, S3, s3, pG_bind (k := fun z => cmpD op' y z) q3 fun ω4 z4 H4 d4 S4 g4 s4 r4 q4 => ?_⟩
      exact cmp_ok op' s4 (RepB.go (RepB.go r2 g3 s2.wok) g4 s3.wok) r4 q4
    | false => exact pG.ret q3 s3 (.bl _)
  | _ => exact q3.elim
theorem rt_chain {op op' : Cop} {d : Expr} {k : Nat} (hr : Room k X.A) (hs : okShape d = true) (ha : PE X a (tE X.K cl own true f)) (hc : PE X c (tE X.K cl own true g)) (hd : PE X d (tE X.K cl own true h)) :
    PT X (.Compare a [copOf op, copOf op'] [c, d] pos) (tT X.K cl own fun δ => do asB (← (do
      let x ← f δ
      let y ← g δ
      let k ← asB (← cmpD op x y)
      if k then do
        let z ← h δ
        cmpD op' y z
      else pure (.bl false)))) := by
  refine (pt_chain (op_cmp (hu_cmp hr) op) (op_cmp (hu_cmp hr) op') ha hc hd (shape_mark hs _)).imp fun σ H Q ⟨ω, δ, S, s, q⟩ => ?_
  have q' : pG X.K cl own (fun _ _ (c c' : Bool) => c = c') ω H σ δ Q ((f δ >>= fun x => g δ >>= fun y => cmpD op x y >>= fun z => asB z >>= fun k => if k = true then h δ >>= fun z => cmpD op' y z >>= asB else pure false) S) := by
    have e : ((do asB (← (do
      let x ← f δ
      let y ← g δ
      let k ← asB (← cmpD op x y)
      if k then do
        let z ← h δ
        cmpD op' y z
      else pure (.bl false)))) : M Bool) S = (f δ >>= fun x => g δ >>= fun y => cmpD op x y >>= fun z => asB z >>= fun k => if k = true then h δ >>= fun z => cmpD op' y z >>= asB else pure false) S := by
      simp only [M.bind_run]
      cases f δ S with
      | ok x S1 =>
        simp only
        cases g δ S1 with
        | ok y S2 =>
          simp only
          cases cmpD op x y S2 with
          | ok z S3 =>
            simp only
            cases asB z S3 with
            | ok k S4 =>
              cases k with
              | true =>
                simp only [if_true, M.bind_run]
                cases h δ S4 <;> rfl
              | false => rfl
            | _ => rfl
          | _ => rfl
        | _ => rfl
      | _ => rfl
    rw [← e]
    exact q
  refine ⟨ω, δ, S, s, pG_bind q' fun ω1 v H1 x S1 g1 s1 r1 q1 => ?_⟩
  refine ⟨ω1, δ, S1, s1, pG_bind q1 fun ω2 w H2 y S2 g2 s2 r2 q2 => ?_⟩
  refine cmp_ok (b := false) op s2 (RepB.go r1 g2 s1.wok) r2 (pG_bind q2 fun ω3 z H3 d S3 g3 s3 r3 q3 => ?_)
  cases d with
  | bl k =>
    refine ⟨k, (RepF.b r3).bl, ?_⟩
    cases k with
    | true =>
      refine ⟨ω3, δ, S3, s3, pG_bind (k := fun z => cmpD op' y z >>= asB) q3 fun ω4 z4 H4 d4 S4 g4 s4 r4 q4 => ?_⟩
      exact cmp_ok (b := false) op' s4 (RepB.go (RepB.go r2 g3 s2.wok) g4 s3.wok) r4 (pG_bind q4 fun ω5 z5 H5 d5 S5 g5 s5 r5 q5 => asB_out s5 (RepF.b r5) q5)
    | false => exact ⟨false, rfl, q3 ω3 _ H3 (Go.refl _ _) s3 rfl⟩
  | _ => exact q3.elim

/-! ### displays -/
theorem l1000 {n : Nat} (h : n ≤ 1000) : n ≤ sizeLine := Nat.le_of_lt (small1000 h)
theorem RepFL.len {ω : Wd} {H : Hp} {vs : List V} {ds : List D} (r : RepFL K cl b ω H vs ds) : vs.length = ds.length := by
  induction r with
  | nil => rfl
  | cons _ _ ih => simp [ih]
theorem re_tup {k : Nat} {gs : En → M (List D)} (ha : PA X es (tA K cl own false gs)) : PE X (.Tuple es k pos) (tE K cl own b fun δ => do
    let ds ← gs δ
    if ds.length ≤ 1000 then pure (.tup ds) else M.no) := by
  refine (pe_tupF ha).imp fun σ H Q ⟨ω, δ, S, s, q⟩ => ⟨ω, δ, S, s, pG_bind q fun ω1 vs H1 ds S1 g1 s1 r1 q1 => ?_⟩
  by_cases hz : ds.length ≤ 1000
  · rw [if_pos hz] at q1
    exact ⟨l1000 (by rw [r1.len]; exact hz), fun p ob hp hd => pG.new q1 s1 hp (Rep.newT r1.l hp hd s1.wok)⟩
  · rw [if_neg hz] at q1
    exact q1.elim
theorem re_lst {gs : En → M (List D)} (ha : PA X es (tA K cl own false gs)) : PE X (.List es pos) (tE K cl own b fun δ => do
    let ds ← gs δ
    if ds.length ≤ 1000 then pure (.lst ds) else M.no) := by
  refine (pe_lst ha).imp fun σ H Q ⟨ω, δ, S, s, q⟩ => ⟨ω, δ, S, s, pG_bind q fun ω1 vs H1 ds S1 g1 s1 r1 q1 => ?_⟩
  by_cases hz : ds.length ≤ 1000
  · rw [if_pos hz] at q1
    exact ⟨l1000 (by rw [r1.len]; exact hz), fun p hp => pG.new q1 s1 hp (Rep.newL r1.l hp s1.wok)⟩
  · rw [if_neg hz] at q1
    exact q1.elim

/-! ### items, slices -/
theorem atI_eq {α : Type} (xs : List α) (i : Int) : RF.atI xs i = L2.atI xs i := rfl
theorem ixOf_some {n : Nat} {i : Int} {j : Nat} (h : ixOf n i = some j) : j < n := by
  unfold ixOf at h
  split at h
  · split at h
    · cases h; omega
    · cases h
  · split at h
    · cases h; omega
    · cases h
theorem RepL.atI {ω : Wd} {H : Hp} {vs : List V} {ds : List D} (r : RepL K cl ω H vs ds) {i : Int} {d : D} (h : RF.atI ds i = some d) : ∃ v, L2.atI vs i = some v ∧ Rep K cl ω H v d := by
  unfold RF.atI at h
  rw [← r.1] at h
  cases e : ixOf vs.length i with
  | none => rw [e] at h; cases h
  | some j =>
    rw [e] at h
    obtain ⟨v, h1, h2⟩ := r.at h
    refine ⟨v, ?_, h2⟩
    show (ixOf vs.length i).bind (fun j => vs[j]?) = _
    rw [e]
    exact h1
theorem re_ix {k : Nat} (hr : Room k X.A) (hs : okShape c = true) (ha : PE X a (tE X.K cl own true f)) (hc : PE X c (tE X.K cl own true g)) : PE X (.Subscript a c pos) (tE X.K cl own b fun δ => do
    let x ← f δ
    let y ← g δ
    fun s => match ixD s x y with
      | some v => .ok v s
      | none => .no) := by
  refine ((pe_ix ix_seq ha hc (shape_ix hs)).or (pe_dget (hu_of hr) ha hc (shape_ix hs))).imp fun σ H Q ⟨ω, δ, S, s, q⟩ => ?_
  -- which of the two: by the first value
  have go : ∀ T : V → V → Hp → Prop, (∀ ω2 v w H2 x y S2, SR X.K cl own ω2 σ H2 δ S2 → RepB X.K cl ω2 H2 v x → RepB X.K cl ω2 H2 w y → f δ S = .ok x S2 ∨ True → pG X.K cl own (RepF X.K cl b) ω2 H2 σ δ Q (match ixD S2 x y with
      | some v => .ok v S2
      | none => .no) → (∃ S0, f δ S = .ok x S0) → T v w H2) → tE X.K cl own true f σ H fun v H1 => tE X.K cl own true g σ H1 fun w H2 => T v w H2 := fun T hT => by
    refine ⟨ω, δ, S, s, ?_⟩
    dsimp only at q
    rw [M.bind_run] at q
    cases e : f δ S with
    | ok x S1 =>
      rw [e] at q
      intro ω1 v H1 g1 s1 r1
      refine ⟨ω1, δ, S1, s1, pG_bind (k := fun y s => match ixD s x y with
        | some v => .ok v s
        | none => .no) (pG.go q g1) fun ω2 w H2 y S2 g2 s2 r2 q2 => ?_⟩
      exact hT ω2 v w H2 x y S2 s2 (RepB.go r1 g2 s1.wok) r2 (.inr trivial) q2 ⟨S1, e⟩
    | exc _ _ => rw [e] at q; exact q.elim
    | no => rw [e] at q; exact q.elim
  cases e : f δ S with
  | ok x S1 =>
    by_cases hd : ∃ l, x = .dct l
    · obtain ⟨l, rfl⟩ := hd
      refine .inr (go _ fun ω2 v w H2 x y S2 s2 r1 r2 _ q2 ⟨S0, e2⟩ => ?_)
      rw [e] at e2
      cases e2
      obtain ⟨p, ks, rfl, hp, rp⟩ := RepB.dctH r1
      have fin : ∀ q' : Ky, w = kV q' → ixD S2 (.dct l) y = dget l q' → ∃ a v, V.ref p = .ref a ∧ DGet H2 a w (some v) ∧ Q v H2 := fun q' ew ei => by
        rw [ei] at q2
        rcases rp.val q' with ⟨z1, z2⟩ | ⟨v, d, z1, z2, rv⟩
        · rw [z2] at q2; exact q2.elim
        · rw [z2] at q2
          refine ⟨p, v, rfl, ?_, pG.ret q2 s2 rv⟩
          have := DGet.k (k := q') hp
          rw [z1] at this
          rw [ew]
          exact this
      cases y with
      | int i => exact fin (.inl i) (RepB.int r2) rfl
      | str z => exact fin (.inr z) (RepB.str r2) rfl
      | _ => exact q2.elim
    · refine .inl (go _ fun ω2 v w H2 x' y S2 s2 r1 r2 _ q2 ⟨S0, e2⟩ => ?_)
      rw [e] at e2
      cases e2
      cases y with
      | int i =>
        cases x with
        | tup l =>
          obtain ⟨p, vs, rfl, hp, rp⟩ := (RepB.tup r1).seqT
          cases e3 : RF.atI l i with
          | none => simp only [ixD, e3] at q2; exact q2.elim
          | some d =>
            simp only [ixD, e3] at q2
            obtain ⟨z, h1, h2⟩ := rp.atI e3
            exact .inr (.inl ⟨p, vs, i, z, rfl, RepB.int r2, hp, h1, pG.ret q2 s2 h2⟩)
        | lst l =>
          obtain ⟨p, vs, rfl, hp, rp⟩ := RepB.seqL r1
          cases e3 : RF.atI l i with
          | none => simp only [ixD, e3] at q2; exact q2.elim
          | some d =>
            simp only [ixD, e3] at q2
            obtain ⟨z, h1, h2⟩ := rp.atI e3
            exact .inl ⟨p, vs, i, z, rfl, RepB.int r2, hp, h1, pG.ret q2 s2 h2⟩
        | frz l =>
          obtain ⟨p, vs, rfl, hp, rp⟩ := RepB.seqF r1
          cases e3 : RF.atI l i with
          | none => simp only [ixD, e3] at q2; exact q2.elim
          | some d =>
            simp only [ixD, e3] at q2
            obtain ⟨z, h1, h2⟩ := rp.atI e3
            exact .inl ⟨p, vs, i, z, rfl, RepB.int r2, hp, h1, pG.ret q2 s2 h2⟩
        | str z =>
          by_cases hz : z.length ≤ line
          · simp only [ixD, if_pos hz] at q2
            cases e3 : RF.atI z.cps.toList i with
            | none => rw [e3] at q2; exact q2.elim
            | some d =>
              rw [e3] at q2
              exact .inr (.inr ⟨z, i, d, RepB.str r1, RepB.int r2, by rw [← line_eq]; exact hz, e3, pG.ret q2 s2 (.str _)⟩)
          · simp only [ixD, if_neg hz] at q2
            exact q2.elim
        | obj n =>
          simp only [ixD] at q2
          cases e4 : S2[n]? with
          | none => rw [e4] at q2; exact q2.elim
          | some o =>
            rw [e4] at q2
            cases o with
            | lst l =>
              cases e3 : RF.atI l i with
              | none => simp only [e3] at q2; exact q2.elim
              | some d =>
                simp only [e3] at q2
                rcases r1 with r1 | ⟨_, _, _, _, z⟩
                · cases r1 with
                  | @obj p _ hp =>
                    obtain ⟨vs, hv, rp⟩ := s2.sto.obj n p _ hp e4
                    obtain ⟨z, h1, h2⟩ := rp.atI e3
                    exact .inl ⟨p, vs, i, z, rfl, RepB.int r2, .inl (.inl hv), h1, pG.ret q2 s2 h2⟩
                · exact z.elim
            | _ => exact q2.elim
        | dct l => exact absurd ⟨l, rfl⟩ hd
        | _ => exact q2.elim
      | _ => cases x <;> first | exact q2.elim | exact absurd ⟨_, rfl⟩ hd
  | exc _ _ =>
    simp only [M.bind_run, e] at q
    exact q.elim
  | no =>
    simp only [M.bind_run, e] at q
    exact q.elim
end
end RF
end
section
set_option linter.all false
set_option maxRecDepth 100000
set_option maxHeartbeats 4000000
set_option autoImplicit false
/-! RfSnd6: calls. A def's promise, where nothing is being shown (repr) around it. -/
namespace RF
open PySem PySem.Spec L2
open PyProof.Rows hiding St

/-- a def that keeps its promise wherever no repr is under way -/
structure FnR (P : Program) (w : World) (K : PySem.W.Frag) (mg : Str → Option Value) (base : Heap) (k : Nat) (f : Addr) (fd : FuncData) (ps : List Str) (sp : Sp) : Prop where
  len : ∀ vs H Q E, sp vs H Q E → vs.length = ps.length
  run : ∀ (A : Around) (outer : List Env) (s : Shared) (H : Hp) (args : Args) (us : List Value) (vs : List V) (Q : VK) (E : XK), Room k A → A.guards = some [] → Env0 P w K mg base A outer s H →
    BindsTo s fd args (ps.zip us) → Vals vs us → sp vs H Q E → codeAny (model P w) A (.call (.ref f) args) (CR CX0 outer P w H s Q E) s
section
variable {P : Program} {w : World} {K : PySem.W.Frag} {mg : Str → Option Value} {base : Heap} {k j : Nat} {f : Addr} {fd : FuncData} {ps : List Str} {sp : Sp}
theorem FnR.mono (F : FnR P w K mg base j f fd ps sp) (h : j ≤ k) : FnR P w K mg base k f fd ps sp :=
  ⟨F.len, fun A outer s H args us vs Q E hr => F.run A outer s H args us vs Q E (hr.mono h)⟩
theorem deeper_guards {A : Around} {env : Env} (h : A.guards = some []) : (A.deeper env).guards = some [] := by
  unfold Around.deeper
  simpa using h
theorem fnr_of {name qual : Str} {params : Arguments} {body : List Stmt} {scope : Scope} {dV kV doc pm cdv ct oc : Value} {an od : Option Addr} {osl : Array (Option Value)} {N : List Str}
    (lk : K.lookup f = some ⟨oc, od, .func (PySem.W.fnOf name qual params body scope dV kV doc pm an cdv ct), osl⟩) (hcd : PySem.W.codeIn K cdv qual = true) (S : FnScope N ps scope) (len : ∀ vs H Q E, sp vs H Q E → vs.length = ps.length)
    (hbody : ∀ (A : Around) (outer : List Env) (s : Shared) (H : Hp) (vs : List V) (Q : VK) (E : XK), Room k (A.deeper (envOfC qual scope s.heap.objs.size f cdv)) → (A.deeper (envOfC qual scope s.heap.objs.size f cdv)).guards = some [] → sp vs H Q E →
      ∃ t, PSs (cxOf CX0 P w K mg base N qual scope f cdv A outer s H E).nox body t ∧ t { nx := fun _ H' => Q .non H', rt := Q } (start N vs) H) :
    FnR P w K mg base (k + 1) f (PySem.W.fnOf name qual params body scope dV kV doc pm an cdv ct) ps sp := by
  refine ⟨len, fun A outer s H args us vs Q E room gd e0 hb rel prom => ?_⟩
  have KX := e0.mod.kin.keeps (h' := s.heap) fun b o e => (e0.bs b o e).1
  have lim := e0.mod.nolimit.keeps (h' := s.heap) fun b o e => (e0.bs b o e).1
  have kinds : ∀ y ∈ ps.zip us, scope.names.lookup y.1 = some .local ∨ (scope.names.lookup y.1 = some .cell ∧ ((cellsFrom (s.heap.objs.size + 1) scope.names []).lookup y.1).isSome = true) := by
    rintro ⟨n, v⟩ hy
    exact (S.par n (List.of_mem_zip hy).1).imp id fun q => ⟨q, PySem.W.cellsFrom_some _ _ _ (.inl q)⟩
  refine codeAny_call_function room.depth (KX _ _ lk) rfl S.co S.gen rfl (PySem.W.codeRec_of KX hcd)
    (hb _ _ _ _ (wpAny_newFunctionEnv_cells S.kind kinds fun env he s1 x => ?_))
  subst he
  refine ⟨lim.keeps x.toInCall.keep, codeAny_func ?_⟩
  obtain ⟨t, ht, hq⟩ := hbody A outer s H vs Q E (room.deeper _) (deeper_guards gd) prom
  have I := inv_start (CX := CX0) (E := E) S room.hd e0 (len _ _ _ _ prom) rel x
  refine wpAny_mono (ht.nox.run [] s1 (start N vs) H _ I hq) (fun fl s' hs => ?_) fun _ _ z => z
  cases fl with
  | ret u =>
    obtain ⟨v, σ', H', J, rv, q⟩ := hs
    exact ⟨v, H', J.os, J.bare, J.base, J.hok, rv, q⟩
  | next =>
    obtain ⟨σ', H', J, q⟩ := hs
    exact ⟨V.non, H', J.os, J.bare, J.base, J.hok, rfl, q⟩
  | brk => exact hs.elim fun _ z => z.elim fun _ z => z.2.elim
  | cont => exact hs.elim fun _ z => z.elim fun _ z => z.2.elim
end

/-! ### what a call of a def asks, in our data -/
section
variable (K : PySem.W.Frag) (cl : Nat → Addr)
def spOf (ar : Nat) (g : List D → M D) : Sp := fun vs H Q _ => ∃ ω ds S, ω.ow = (fun _ => none) ∧ WOk ω H ∧ StoOk K cl ω H S ∧ vs.length = ar ∧ RepL K cl ω H vs ds ∧ (match g ds S with
  | .ok d S' => ∀ ω' v H', Go ω H ω' H' → WOk ω' H' → StoOk K cl ω' H' S' → Rep K cl ω' H' v d → Q v H'
  | _ => False)
end
section
variable {X : Cx} {k : Nat} {f : Addr} {fd : FuncData} {ps : List Str} {sp : Sp}
theorem run_fnr {pins : List (Addr × Obj)} {σ : L2.St} {H : Hp} {s : Shared} {Q : VK} {us : List Value} {vs : List V} (F : FnR X.prog X.w X.K X.mg X.base k f fd ps sp) (hr : Room k X.A) (gd : X.A.guards = some []) (hb : Binds X.K fd ps [])
    (I : Inv X pins σ H s) (r : Vals vs us) (h : sp vs H Q E0) : wpAny (model X.prog X.w) X.A (call (.ref f) us) (EP X pins σ Q) X.xe s := by
  have hl : (us ++ []).length = ps.length := by rw [List.append_nil, ← r.length]; exact F.len _ _ _ _ h
  have hb' := hb s us I.kIn hl
  rw [List.append_nil] at hb'
  refine wpAny_call (codeAny_mono (F.run X.A X.stack s H ⟨us, []⟩ us vs Q E0 hr gd I.env0 hb' r h) fun res s' hq => ?_)
  cases res with
  | error e => exact hq.elim
  | ok fl =>
    cases fl with
    | ret u => exact I.after hq
    | next => exact hq.elim
    | brk => exact hq.elim
    | cont => exact hq.elim
theorem pe_callR {x : Str} {p pos : Pos} {e : Expr} {es : List Expr} {t : TA} (F : FnR X.prog X.w X.K X.mg X.base k f fd ps sp) (hr : Room k X.A) (gd : X.A.guards = some []) (hg : Gl X x) (hm : X.mg x = some (.ref f)) (hk : PySem.W.keepIn X.K (.ref f) = true) (hb : Binds X.K fd ps [])
    (ha : PA X (e :: es) t) (hdb : (x == ("__debug__" : Str)) = false) (he : starEach (e :: es) X.env = (false, eval e X.env) :: starEach es X.env) (hpl : (backTo pos (starEach es X.env)).any (·.1) = false) :
    PE X (.Call (.Name x p) (e :: es) [] pos) (fun σ H Q => t σ H fun vs H1 => sp vs H1 Q E0) := by
  refine ⟨fun pins s σ H Q I h => wpAny_Call_Name_kw (ld_glob I hg hm (PySem.W.callWith_K (h₀ := X.base) I.ok.mod.kin hk ?_ he hpl) hdb)⟩
  exact thn (ha.run pos pins s σ H _ I h) fun us s1 ⟨vs, H1, I1, r, q⟩ => ⟨I1.kIn, run_fnr F hr gd hb I1 r q⟩
theorem pe_callR0 {x : Str} {p pos : Pos} (F : FnR X.prog X.w X.K X.mg X.base k f fd ps sp) (hr : Room k X.A) (gd : X.A.guards = some []) (hg : Gl X x) (hm : X.mg x = some (.ref f)) (hk : PySem.W.keepIn X.K (.ref f) = true) (hb : Binds X.K fd ps [])
    (hdb : (x == ("__debug__" : Str)) = false) : PE X (.Call (.Name x p) [] [] pos) (fun σ H Q => sp [] H Q E0) :=
  ⟨fun pins s σ H Q I h => wpAny_Call_Name_kw (ld_glob I hg hm (PySem.W.callWith_K0 I.kIn hk (run_fnr (us := []) F hr gd hb I .nil h)) hdb)⟩
/-- no star in a list of arguments -/
theorem noStar : ∀ {es : List Expr} {env : Env} {pos : Pos}, es.all okShape = true → (backTo pos (starEach es env)).any (·.1) = false := by
  intro es env pos h
  have e1 : ∀ es : List Expr, es.all okShape = true → (starEach es env).any (·.1) = false := by
    intro es
    induction es with
    | nil => intro _; rfl
    | cons e es ih =>
      intro h
      rw [List.all_cons, Bool.and_eq_true] at h
      rw [shape_star h.1, List.any_cons, ih h.2]
      rfl
  have e2 : ∀ l : List (Bool × Sem Value), (backTo pos l).any (·.1) = l.any (·.1) := by
    intro l
    unfold backTo
    induction l with
    | nil => rfl
    | cons p l ih => simp_all
  rw [e2, e1 es h]
variable {K : PySem.W.Frag} {cl : Nat → Addr} {own : List Nat} {b : Bool}
/-- from what a body knows to what a callee asks, and back -/
theorem sp_of {ω : Wd} {H : Hp} {σ : L2.St} {δ : En} {S : Sto} {Q : VK} {ar : Nat} {g : List D → M D} {vs : List V} {ds : List D} {E : XK} (s : SR K cl own ω σ H δ S) (hl : vs.length = ar) (r : RepL K cl ω H vs ds)
    (q : pG K cl own (RepF K cl b) ω H σ δ Q (g ds S)) : spOf K cl ar g vs H Q E := by
  have e1 : ∀ a, Wd.bar { rho := ω.rho, ow := fun _ => none, av := fun a => ω.av a ∨ ∃ i, ω.ow i = some a } a ↔ ω.bar a := fun a => by
    constructor
    · rintro (z | ⟨i, z⟩ | z | z)
      · exact .inl z
      · cases z
      · exact .inr (.inr z)
      · exact .inr (.inl z)
    · rintro (z | z | z)
      · exact .inl z
      · exact .inr (.inr (.inr z))
      · exact .inr (.inr (.inl z))
  refine ⟨{ rho := ω.rho, ow := fun _ => none, av := fun a => ω.av a ∨ ∃ i, ω.ow i = some a }, ds, S, rfl, ⟨s.wok.nd, s.wok.rho, (fun i a z => nomatch z), (fun i j a z => nomatch z), fun a z => ?_⟩, ⟨s.sto.len, fun n a d h1 h2 => ?_⟩, hl, r.as rfl fun a z => (e1 a).mp z, ?_⟩
  · rcases z with z | ⟨i, z⟩
    · exact s.wok.av a z
    · exact ⟨(s.wok.ow i a z).1, (s.wok.ow i a z).2.1⟩
  · have := s.sto.obj n a d h1 h2
    cases d with
    | lst ds => obtain ⟨vs, q, r⟩ := this; exact ⟨vs, q, r.as rfl fun a z => (e1 a).mp z⟩
    | dct ds => obtain ⟨vs, q, r⟩ := this; exact ⟨vs, q, r.as rfl fun a z => (e1 a).mp z⟩
    | ins c gs => obtain ⟨dx, fs, q, r⟩ := this; exact ⟨dx, fs, q, r.as rfl fun a z => (e1 a).mp z⟩
    | _ => exact this.elim
  · cases e : g ds S with
    | exc _ _ => rw [e] at q; exact q.elim
    | no => rw [e] at q; exact q.elim
    | ok d S' =>
      rw [e] at q
      intro ω' v H' go wok sto rv
      have eo : ω'.ow = fun _ => none := go.eq
      have ea : ω'.av = fun a => ω.av a ∨ ∃ i, ω.ow i = some a := go.ea
      -- the caller's world behind the call
      have e2 : ∀ a, Wd.bar { rho := ω'.rho, ow := ω.ow, av := ω.av } a ↔ ω'.bar a := fun a => by
        unfold Wd.bar
        rw [eo, ea]
        constructor
        · rintro (z | z | z)
          · exact .inl z
          · exact .inr (.inr (.inr z))
          · exact .inr (.inr (.inl z))
        · rintro (z | ⟨i, z⟩ | z | z)
          · exact .inl z
          · cases z
          · exact .inr (.inr z)
          · exact .inr (.inl z)
      have go2 : Go ω H { rho := ω'.rho, ow := ω.ow, av := ω.av } H' := by
        exact ⟨⟨go.st.pre, (fun a o h n _ => go.st.keep a o h n (fun _ z => nomatch z)), go.st.tup, go.st.new, (fun i a z => .inl z), (fun a z => .inl z), go.st.dom⟩, rfl, rfl⟩
      have keepO : ∀ i a, ω.ow i = some a → H' a = H a := fun i a z => by
        cases ho : H a with
        | none => exact absurd ho (s.wok.ow i a z).1
        | some o => exact go.st.keep a o ho (s.wok.ow i a z).2.1 fun _ z => nomatch z
      refine q { rho := ω'.rho, ow := ω.ow, av := ω.av } v H' go2 ⟨s.len, ⟨wok.nd, wok.rho, fun i a z => ?_, s.wok.inj, fun a z => ?_⟩, fun i d h1 h2 => ?_, fun i d h1 h2 => ?_, ⟨sto.len, fun n a d h1 h2 => ?_⟩⟩ (RepF.of (rv.as rfl fun a z => (e2 a).mp z))
      · have h := s.wok.ow i a z
        exact ⟨go.st.dom a h.1, go.st.new a h.1 h.2.1, h.2.2⟩
      · have h := s.wok.av a z
        exact ⟨go.st.dom a h.1, go.st.new a h.1 h.2⟩
      · obtain ⟨v, z, y⟩ := s.slot i d h1 h2
        exact ⟨v, z, y.go go2.st⟩
      · rcases s.osl i d h1 h2 with ⟨a, z, y, x⟩ | ⟨hm, v, z, y⟩
        · exact .inl ⟨a, z, y, x.go go2.st (keepO i a y)⟩
        · exact .inr ⟨hm, v, z, y.go go2.st⟩
      · have := sto.obj n a d h1 h2
        cases d with
        | lst ds => obtain ⟨vs, q, r⟩ := this; exact ⟨vs, q, r.as rfl fun a z => (e2 a).mp z⟩
        | dct ds => obtain ⟨vs, q, r⟩ := this; exact ⟨vs, q, r.as rfl fun a z => (e2 a).mp z⟩
        | ins c gs => obtain ⟨dx, fs, q, r⟩ := this; exact ⟨dx, fs, q, r.as rfl fun a z => (e2 a).mp z⟩
        | _ => exact this.elim
theorem re_call {x : Str} {p pos : Pos} {e : Expr} {es : List Expr} {gs : En → M (List D)} {ar : Nat} {g : List D → M D} (F : FnR X.prog X.w X.K X.mg X.base k f fd ps (spOf X.K cl ar g)) (hr : Room k X.A) (gd : X.A.guards = some []) (hg : Gl X x) (hm : X.mg x = some (.ref f)) (hk : PySem.W.keepIn X.K (.ref f) = true)
    (hb : Binds X.K fd ps []) (hdb : (x == ("__debug__" : Str)) = false) (ha : PA X (e :: es) (tA X.K cl own false gs)) (hs : okShape e = true ∧ es.all okShape = true) (hgl : ∀ δ S ds S', gs δ S = .ok ds S' → ds.length = ar) :
    PE X (.Call (.Name x p) (e :: es) [] pos) (tE X.K cl own b fun δ => do g (← gs δ)) := by
  refine (pe_callR F hr gd hg hm hk hb ha hdb (shape_star hs.1) (noStar hs.2)).imp fun σ H Q ⟨ω, δ, S, s, q⟩ => ⟨ω, δ, S, s, ?_⟩
  dsimp only at q
  rw [M.bind_run] at q
  cases e : gs δ S with
  | exc _ _ => rw [e] at q; exact q.elim
  | no => rw [e] at q; exact q.elim
  | ok ds S1 =>
    rw [e] at q
    intro ω1 vs H1 g1 s1 r1
    exact sp_of s1 (by rw [r1.len]; exact hgl δ S ds S1 e) r1.l (pG.go q g1)
theorem re_call0 {x : Str} {p pos : Pos} {g : List D → M D} (F : FnR X.prog X.w X.K X.mg X.base k f fd ps (spOf X.K cl 0 g)) (hr : Room k X.A) (gd : X.A.guards = some []) (hg : Gl X x) (hm : X.mg x = some (.ref f)) (hk : PySem.W.keepIn X.K (.ref f) = true)
    (hb : Binds X.K fd ps []) (hdb : (x == ("__debug__" : Str)) = false) : PE X (.Call (.Name x p) [] [] pos) (tE X.K cl own b fun δ => do g (← (pure [] : M (List D)))) :=
  (pe_callR0 F hr gd hg hm hk hb hdb).imp fun σ H Q ⟨ω, δ, S, s, q⟩ => sp_of s rfl RepL.nil q
end
end RF
end
section
set_option linter.all false
set_option maxRecDepth 100000
set_option maxHeartbeats 4000000
set_option autoImplicit false
/-! RfSnd7: builtins by their names, isinstance, slices, f-strings. -/
namespace RF
open PySem PySem.Spec L2
open PyProof.Rows hiding St

/-! ### isinstance -/
def tyD (cl : Nat → Addr) : D → Value
  | .non => .type "NoneType"
  | .bl _ => .type "bool"
  | .int _ => .type "int"
  | .str _ => .type "str"
  | .tup _ => .type "tuple"
  | .lst _ => .type "list"
  | .frz _ => .type "list"
  | .dct _ => .type "dict"
  | .ins c _ => .ref (cl c)
  | .obj _ => .none
def kitT (cl : Nat → Addr) : Ty → Value
  | .int => .type "int"
  | .bool => .type "bool"
  | .str => .type "str"
  | .tuple => .type "tuple"
  | .cls c => .ref (cl c)
def kitV (cl : Nat → Addr) : Ty → V
  | .int => .ty "int"
  | .bool => .ty "bool"
  | .str => .ty "str"
  | .tuple => .ty "tuple"
  | .cls c => .ref (cl c)
theorem kitV_is (cl : Nat → Addr) (t : Ty) : ClsV (kitV cl t) (kitT cl t) := by
  cases t with
  | cls c => exact .own _
  | _ => exact .ty _
/-- what isinstance asks of the classes that the text has -/
structure ClsOk (K : PySem.W.Frag) (C : Addr) : Prop where
  cl : Cls K C
  ha : PySem.W.findIn K (.ref C) "__class__" = some (some (.builtin "object.__class__"))
  hn : PySem.W.specialIn K (.builtin "object.__class__") "__get__" = some (some (.builtin "getset_descriptor.__get__"))
  htk : PySem.W.takesIn K (.builtin "object.__class__") = some true
  hm : PySem.W.mroIn K C (.type "object") = some true
def notObj : D → Bool
  | .obj _ => false
  | _ => true
section
variable {K : PySem.W.Frag} {cl : Nat → Addr} {own : List Nat} {X : Cx} {a c e : Expr} {es : List Expr} {p pos : Pos} {f g : En → M D} {gs : En → M (List D)} {b : Bool} {ω : Wd} {H : Hp} {σ : L2.St} {δ : En} {S : Sto} {v : V} {d : D}
theorem Own.ty {q : Addr} (r : Own K cl ω H q d) (hc : ∀ c l, d = .ins c l → ClsOk K (cl c)) : TyX K H (.ref q) (tyD cl d) := by
  cases d with
  | lst l => obtain ⟨vs, z, _⟩ := r; exact .base (.lst z)
  | dct l => obtain ⟨vs, z, _⟩ := r; exact .base (.dK z)
  | ins c l =>
    obtain ⟨dx, fs, z, _⟩ := r
    have k := hc c l rfl
    exact .base (.ins z k.cl k.ha k.hn k.htk k.hm)
  | _ => exact r.elim
theorem Rep.ty (r : Rep K cl ω H v d) (ho : notObj d = true) (hc : ∀ c l, d = .ins c l → ClsOk K (cl c)) : TyX K H v (tyD cl d) := by
  cases r with
  | non => exact .base .non
  | bl b => exact .base (.bl b)
  | int i => exact .base (.int i)
  | str x => exact .base (.str x)
  | tup h l e =>
    rcases h with ⟨o, h, _⟩ | ⟨o, its, n, h1, h2, _⟩
    · exact .fTuple h
    · exact .kTuple h1 h2
  | lst h n l e => exact .base (.lst h)
  | dct h n l ek e => exact .base (.dK h)
  | ins h n l ek e =>
    have k := hc _ _ rfl
    exact .base (.ins h k.cl k.ha k.hn k.htk k.hm)
  | obj h => cases ho
  | frz h l e =>
    rcases h with ⟨o, h, _⟩ | (h | ⟨o, h⟩) | ⟨o, its, n, h1, h2, _⟩
    · exact .base (.frz h)
    · cases h
    · cases h
    · exact .kList h1 h2
theorem RepB.ty (r : RepB K cl ω H v d) (ho : notObj d = true) (hc : ∀ c l, d = .ins c l → ClsOk K (cl c)) : TyX K H v (tyD cl d) := by
  rcases r with r | ⟨q, i, rfl, _, z⟩
  · exact r.ty ho hc
  · exact z.ty hc
theorem re_isi {x : Str} {eT : Expr} {t : Ty} (hg : Gl X x) (hx : x = "isinstance") (hm : X.mg x = none) (ha : PE X a (tE X.K cl own true f)) (hT : PE X eT (tC (kitV cl t))) (hs : okShape a = true) (hs2 : okShape eT = true)
    {n : Nat} (kit : ∀ d, notObj d = true → clsIn n d = true → PySem.W.kitOne X.K (tyD cl d) (kitT cl t) = some (isTy t d)) (hc : ∀ c, c < n → ClsOk X.K (cl c)) :
    PE X (.Call (.Name x p) [a, eT] [] pos) (tE X.K cl own b fun δ => do
      let x ← f δ
      fun s => match isD n s t x with
        | some b => .ok (.bl b) s
        | none => .no) := by
  subst hx
  refine (pe_callB (id := "isinstance") call_isi hg hm (by decide +kernel) (pa_cons ha (pa_cons hT pa_nil (shape_star hs2)) (shape_star hs)) (by decide) (by decide) (shape_star hs) (noStar (by simp [hs2]))).imp fun σ H Q ⟨ω, δ, S, s, q⟩ => ?_
  refine ⟨ω, δ, S, s, pG_bind (k := fun x s => match isD n s t x with
    | some b => Out.ok (D.bl b) s
    | none => Out.no) q fun ω1 v H1 x S1 g1 s1 r1 q1 => ?_⟩
  have fin : ∀ d, TyX X.K H1 v (tyD cl d) → notObj d = true → clsIn n d = true → isD n S1 t x = some (isTy t d) → rIsi X.K [v, kitV cl t] H1 Q := fun d ty no ci e => by
    rw [e] at q1
    exact ⟨v, kitV cl t, tyD cl d, kitT cl t, isTy t d, rfl, kitV_is cl t, ty, kit d no ci, pG.ret q1 s1 (.bl _)⟩
  by_cases no : notObj x = true
  · by_cases ci : clsIn n x = true
    · exact fin x (RepB.ty r1 no fun c l e => hc c (by subst e; simpa [clsIn] using ci)) no ci (by cases x <;> first | (simp only [isD, if_pos ci]; done) | cases no)
    · have e : isD n S1 t x = none := by cases x <;> first | (simp only [isD, if_neg ci]; done) | cases no
      rw [e] at q1
      exact q1.elim
  · cases x with
    | obj m =>
      simp only [isD] at q1
      cases e : S1[m]? with
      | none => rw [e] at q1; exact q1.elim
      | some o =>
        rcases r1 with r1 | ⟨_, _, _, _, z⟩
        · cases r1 with
          | @obj q _ hq =>
            have ow := s1.sto.obj m q o hq e
            cases o with
            | lst l => exact fin (.lst l) (ow.ty fun c l e => nomatch e) rfl rfl (by simp only [isD, e])
            | dct l => exact fin (.dct l) (ow.ty fun c l e => nomatch e) rfl rfl (by simp only [isD, e])
            | ins c l =>
              rw [e] at q1
              dsimp only at q1
              by_cases ci : c < n
              · exact fin (.ins c l) (ow.ty fun c' l' e' => by cases e'; exact hc c ci) rfl (by simp [clsIn, ci]) (by simp only [isD, e, if_pos ci])
              · rw [if_neg ci] at q1
                exact q1.elim
            | _ => exact ow.elim
        · exact z.elim
    | _ => exact absurd rfl no

/-! ### builtins by their names -/
def biVal : Bi → Value
  | .len => .builtin "len" | .tuple => .type "tuple" | .list => .type "list" | .dict => .type "dict" | .sorted => .builtin "sorted" | .sortedSet => .builtin "sorted" | .abs => .builtin "abs"
  | .min => .builtin "min" | .max => .builtin "max" | .int => .type "int" | .bool => .type "bool" | .str => .type "str" | .repr => .builtin "repr" | .all => .builtin "all" | .any => .builtin "any" | .divmod => .builtin "divmod"
def biNm : Bi → Str
  | .len => "len" | .tuple => "tuple" | .list => "list" | .dict => "dict" | .sorted => "sorted" | .sortedSet => "sorted" | .abs => "abs"
  | .min => "min" | .max => "max" | .int => "int" | .bool => "bool" | .str => "str" | .repr => "repr" | .all => "all" | .any => "any" | .divmod => "divmod"
theorem boot_bi (B : Bi) : bootBuiltins (biNm B) = some (biVal B) := by cases B <;> decide +kernel
theorem pe_bi {r : List V → Hp → VK → Prop} {t : TA} {x : Str} (B : Bi) (hx : x = biNm B) (hc : CallR X (biVal B) r) (hg : Gl X x) (hm : X.mg x = none) (ha : PA X (e :: es) t) (hs : okShape e = true) (hs2 : es.all okShape = true) :
    PE X (.Call (.Name x p) (e :: es) [] pos) (tCB r t) := by
  have hb := boot_bi B
  subst hx
  cases B with
  | tuple => exact pe_callTy hc hg hm hb ha (by decide) (by decide) (shape_star hs) (noStar hs2)
  | list => exact pe_callTy hc hg hm hb ha (by decide) (by decide) (shape_star hs) (noStar hs2)
  | dict => exact pe_callTy hc hg hm hb ha (by decide) (by decide) (shape_star hs) (noStar hs2)
  | int => exact pe_callTy hc hg hm hb ha (by decide) (by decide) (shape_star hs) (noStar hs2)
  | bool => exact pe_callTy hc hg hm hb ha (by decide) (by decide) (shape_star hs) (noStar hs2)
  | str => exact pe_callTy hc hg hm hb ha (by decide) (by decide) (shape_star hs) (noStar hs2)
  | _ => exact pe_callB hc hg hm hb ha (by decide) (by decide) (shape_star hs) (noStar hs2)
theorem call_lenD : CallR X (.builtin "len") (fun xs H Q => ∃ p kvs, xs = [.ref p] ∧ H p = some (.dK kvs) ∧ Q (.int kvs.length) H) := by
  intro pins s σ H vs us Q I r h
  obtain ⟨q, kvs, rfl, hq, z⟩ := h
  rw [Vals.ref1 r]
  exact d_len I (.inl hq) fun t s' I' => ⟨.int kvs.length, H, I', ⟨t, rfl⟩, z⟩
theorem call_dictC : CallR X (.type "dict") (fun xs H Q => ∃ p kvs, xs = [.ref p] ∧ H p = some (.dK kvs) ∧ ∀ l, H l = none → Q (.ref l) (upd H l (.dK kvs))) := by
  intro pins s σ H vs us Q I r h
  obtain ⟨q, kvs, rfl, hq, z⟩ := h
  rw [Vals.ref1 r]
  exact d_copyOf I (.inl hq) fun p s' hp I' => ⟨.ref p, _, I', rfl, z p hp⟩
theorem call_reprD (hu : X.A.units + 128 < cLine) (hg : X.A.guards = some []) : CallR X (.builtin "repr") (fun xs H Q => ∃ (p : Addr) (d : PyData), xs = [.ref p] ∧ Dp X.K H (.ref p) d ∧ d.showable = true ∧ d.hasDict = false ∧ d.depth ≤ 64 ∧ d.shown.length ≤ sizeLine ∧ Q (.str d.shown) H) := by
  intro pins s σ H vs us Q I r h
  obtain ⟨q, d, rfl, hq, h1, h2, h3, h4, z⟩ := h
  rw [Vals.ref1 r]
  obtain ⟨as, rd⟩ := hq.reads I d (.ref q) (.ref q) rfl
  exact repr_of_reads' rd h1 (fun e => by rw [h2] at e; cases e) hg (by omega) (fun _ _ e => e) (fun h' u tk hk => ⟨.str d.shown, H, I.kept hk, ⟨u, rfl⟩, z⟩) h4
def rBi (K : PySem.W.Frag) : Bi → List V → Hp → VK → Prop
  | .len => fun xs H Q => (∃ x n, xs = [x] ∧ LenV K x H n ∧ Q (.int n) H) ∨ ∃ p kvs, xs = [.ref p] ∧ H p = some (.dK kvs) ∧ Q (.int kvs.length) H
  | .tuple => fun xs H Q => ∃ p ys, xs = [.ref p] ∧ ((SqL K H p ys ∧ NewTup H Q ys) ∨ (SqT K H p ys ∧ Q (.ref p) H))
  | .list => fun xs H Q => ∃ p ys, xs = [.ref p] ∧ (SqL K H p ys ∨ SqT K H p ys) ∧ ∀ l, H l = none → Q (.ref l) (upd H l (.lst ys))
  | .dict => fun xs H Q => (∃ p kvs, xs = [.ref p] ∧ H p = some (.dK kvs) ∧ ∀ l, H l = none → Q (.ref l) (upd H l (.dK kvs))) ∨
      (∃ (a : Addr) (ps : List Addr) (kvs : List (Key × V)), xs = [.ref a] ∧ SqL K H a (ps.map V.ref) ∧ Paired (fun p kv => SqT K H p [kV kv.1, kv.2]) ps kvs ∧ ∀ p, H p = none → Q (.ref p) (upd H p (.dK (mergeK [] kvs)))) ∨
      ∃ (a : Addr) (ps : List Addr) (kvs : List (Key × V)), xs = [.ref a] ∧ PTu K H a (ps.map V.ref) ∧ Paired (fun p kv => SqT K H p [kV kv.1, kv.2]) ps kvs ∧ ∀ p, H p = none → Q (.ref p) (upd H p (.dK (mergeK [] kvs)))
  | .sorted => rSortedS K
  | .abs => fun xs H Q => ∃ i, xs = [.int i] ∧ Q (.int (if i < 0 then -i else i)) H
  | .min => fun xs H Q => ∃ i j, xs = [.int i, .int j] ∧ Q (.int (if j < i then j else i)) H
  | .max => fun xs H Q => ∃ i j, xs = [.int i, .int j] ∧ Q (.int (if j > i then j else i)) H
  | .int => fun xs H Q => (∃ i, xs = [.int i] ∧ Q (.int i) H) ∨ ∃ k, xs = [.bl k] ∧ Q (.int (if k then 1 else 0)) H
  | .repr => fun xs H Q => ∃ (p : Addr) (d : PyData), xs = [.ref p] ∧ Dp K H (.ref p) d ∧ d.showable = true ∧ d.hasDict = false ∧ d.depth ≤ 64 ∧ d.shown.length ≤ sizeLine ∧ Q (.str d.shown) H
  | .all => rAll K
  | .any => rAny K
  | .divmod => fun xs H Q => ∃ i j, xs = [.int i, .int j] ∧ CDiv i j ∧ NewTup H Q [.int (i / j), .int (i % j)]
  | _ => fun _ _ _ => False
theorem call_none {fv : Value} : CallR X fv (fun _ _ _ => False) := fun _ _ _ _ _ _ _ _ _ h => h.elim
theorem op_bi (hc : X.calm = true) (hu : X.A.units + 128 < cLine) (hg : X.A.guards = some []) (B : Bi) : CallR X (biVal B) (rBi X.K B) := by
  cases B with
  | len => exact call_len.or call_lenD
  | tuple => exact call_tupF
  | list => exact call_list_of
  | dict => exact call_dictC.or ((call_dictP hc).or (call_dictT hc))
  | sorted => exact cr_sortedS
  | abs => exact call_abs
  | min => exact call_min2 hc
  | max => exact call_max2 hc
  | int => exact call_int1
  | repr => exact call_reprD hu hg
  | all => exact cr_all hc
  | any => exact cr_any hc
  | divmod => exact call_divF
  | _ => exact call_none
end
end RF
end
section
set_option linter.all false
set_option maxRecDepth 100000
set_option maxHeartbeats 4000000
set_option autoImplicit false
/-! RfSnd8: what the builtins give. -/
namespace RF
open PySem PySem.Spec L2
open PyProof.Rows hiding St

/-! ### sorting texts -/
theorem str_ext {x y : Str} (h : x.cps.toList = y.cps.toList) : x = y := by
  cases x; cases y
  simp only at h
  congr 1
  exact Array.ext' h
theorem strLe_refl (x : Str) : strLe x x = true := decide_eq_true (List.le_refl _)
theorem strLe_trans {x y z : Str} (h : strLe x y = true) (k : strLe y z = true) : strLe x z = true :=
  decide_eq_true (List.le_trans (of_decide_eq_true h) (of_decide_eq_true k))
theorem strLe_anti {x y : Str} (h : strLe x y = true) (k : strLe y x = true) : x = y :=
  str_ext (List.le_antisymm (of_decide_eq_true h) (of_decide_eq_true k))
theorem strLe_total (x y : Str) : strLe x y = true ∨ strLe y x = true := by
  rcases List.le_total x.cps.toList y.cps.toList with h | h
  · exact .inl (decide_eq_true h)
  · exact .inr (decide_eq_true h)
theorem insertS_perm (x : Str) : ∀ l : List Str, (insertS x l).Perm (x :: l)
  | [] => .refl _
  | y :: r => by
    unfold insertS
    split
    · exact .refl _
    · exact ((insertS_perm x r).cons y).trans (.swap x y r)
theorem sortS_perm : ∀ l : List Str, (sortS l).Perm l
  | [] => .refl _
  | x :: r => (insertS_perm x (sortS r)).trans ((sortS_perm r).cons x)
theorem insertS_sorted (x : Str) : ∀ l : List Str, l.Pairwise (fun a b => strLe a b = true) → (insertS x l).Pairwise fun a b => strLe a b = true
  | [], _ => by simp [insertS]
  | y :: r, h => by
    have h' := List.pairwise_cons.mp h
    unfold insertS
    split
    · rename_i hx
      refine List.pairwise_cons.mpr ⟨fun a ha => ?_, h⟩
      rcases List.mem_cons.mp ha with rfl | ha
      · exact hx
      · exact strLe_trans hx (h'.1 a ha)
    · rename_i hx
      refine List.pairwise_cons.mpr ⟨fun a ha => ?_, insertS_sorted x r h'.2⟩
      rcases List.mem_cons.mp ((insertS_perm x r).mem_iff.mp ha) with rfl | ha
      · exact (strLe_total a y).resolve_left hx
      · exact h'.1 a ha
theorem sortS_sorted : ∀ l : List Str, (sortS l).Pairwise fun a b => strLe a b = true
  | [] => .nil
  | x :: r => insertS_sorted x _ (sortS_sorted r)
theorem sorted_eq {l m : List Str} (p : l.Perm m) (h : l.Pairwise fun a b => strLe a b = true) (k : m.Pairwise fun a b => strLe a b = true) : l = m :=
  p.eq_of_pairwise (fun a b _ _ h k => strLe_anti h k) h k
theorem rising_pairwise : ∀ (l : List Str) (x : Str), risingS x l = true → (x :: l).Pairwise fun a b => strLe a b = true
  | [], x, _ => by simp
  | y :: r, x, h => by
    unfold risingS at h
    have h0 : ltCps y.cps.toList x.cps.toList = false ∧ risingS y r = true := by simpa using h
    have h1 : ¬ y.cps.toList < x.cps.toList ∧ risingS y r = true := ⟨(fun z => by
      rw [PyProof.Rows.ltCps_eq, decide_eq_true z] at h0
      exact Bool.noConfusion h0.1), h0.2⟩
    have ih := rising_pairwise r y h1.2
    have hxy : strLe x y = true := decide_eq_true (List.not_lt.mp h1.1)
    refine List.pairwise_cons.mpr ⟨fun a ha => ?_, ih⟩
    rcases List.mem_cons.mp ha with rfl | ha
    · exact hxy
    · exact strLe_trans hxy ((List.pairwise_cons.mp ih).1 a ha)
theorem sortedS_eq {ys xs : List Str} (p : ys.Perm xs) (h : sortedS ys = true) : ys = sortS xs := by
  refine sorted_eq (p.trans (sortS_perm xs).symm) ?_ (sortS_sorted xs)
  cases ys with
  | nil => exact .nil
  | cons x r => exact rising_pairwise r x h

/-! ### lists of texts, of truth values, of pairs -/
section
variable {K : PySem.W.Frag} {cl : Nat → Addr} {own : List Nat} {X : Cx} {a c e : Expr} {es : List Expr} {p pos : Pos} {f g : En → M D} {gs : En → M (List D)} {b : Bool} {ω : Wd} {H : Hp} {σ : L2.St} {δ : En} {S : Sto} {v : V} {d : D} {Q : VK}
theorem rep_strs : ∀ {ds : List D} {vs : List V} {xs : List Str}, RepL K cl ω H vs ds → strsOf ds = some xs → vs = xs.map V.str
  | [], vs, xs, r, h => by
    cases h
    exact List.length_eq_zero_iff.mp r.1
  | d :: ds, vs, xs, r, h => by
    cases vs with
    | nil => have := r.1; simp at this
    | cons v vs =>
      cases d with
      | str x =>
        unfold strsOf at h
        cases e : strsOf ds with
        | none => rw [e] at h; cases h
        | some ys =>
          rw [e] at h
          cases h
          have hv : v = .str x := RepB.str (.inl r.head)
          rw [hv, rep_strs r.tail e]
          rfl
      | _ => cases h
theorem rep_bls : ∀ {ds : List D} {vs : List V} {xs : List Bool}, RepL K cl ω H vs ds → blsOf ds = some xs → vs = xs.map V.bl
  | [], vs, xs, r, h => by
    cases h
    exact List.length_eq_zero_iff.mp r.1
  | d :: ds, vs, xs, r, h => by
    cases vs with
    | nil => have := r.1; simp at this
    | cons v vs =>
      cases d with
      | bl x =>
        unfold blsOf at h
        cases e : blsOf ds with
        | none => rw [e] at h; cases h
        | some ys =>
          rw [e] at h
          cases h
          have hv : v = .bl x := RepB.bl (.inl r.head)
          rw [hv, rep_bls r.tail e]
          rfl
      | _ => cases h
theorem repL_strs (xs : List Str) : RepL K cl ω H (xs.map V.str) (xs.map D.str) := by
  induction xs with
  | nil => exact RepL.nil
  | cons x xs ih => exact RepL.cons (.str x) ih
theorem rep_key {k : D} {q : Ky} (r : Rep K cl ω H v k) (h : keyOf k = some q) : v = kV q := by
  cases k with
  | int i => cases h; exact RepB.int (.inl r)
  | str x => cases h; exact RepB.str (.inl r)
  | _ => cases h
theorem rep_pairs : ∀ {ds : List D} {vs : List V} {m : List (Ky × D)}, RepL K cl ω H vs ds → pairsOf ds = some m → ∃ (ps : List Addr) (kvs : List (Key × V)), vs = ps.map V.ref ∧ Paired (fun p kv => SqT K H p [kV kv.1, kv.2]) ps kvs ∧ RepK K cl ω H kvs m
  | [], vs, m, r, h => by
    cases h
    rw [List.length_eq_zero_iff.mp r.1]
    exact ⟨[], [], rfl, .nil, RepK.nil⟩
  | d :: ds, vs, m, r, h => by
    cases vs with
    | nil => have := r.1; simp at this
    | cons v vs =>
      cases d with
      | tup l =>
        match l, h, r with
        | [k, w], h, r =>
          unfold pairsOf at h
          cases e1 : keyOf k with
          | none => rw [e1] at h; cases h
          | some q =>
            cases e2 : pairsOf ds with
            | none => rw [e1, e2] at h; cases h
            | some m' =>
              rw [e1, e2] at h
              cases h
              obtain ⟨ps, kvs, h1, h2, h3⟩ := rep_pairs r.tail e2
              obtain ⟨a, ws, rfl, ha, hr⟩ := r.head.seqT
              have hl : ws.length = 2 := hr.1
              match ws, hl, ha, hr with
              | [u1, u2], _, ha, hr =>
                have hk := rep_key hr.head e1
                subst hk
                exact ⟨a :: ps, (q, u2) :: kvs, by rw [h1]; rfl, .cons ha h2, RepK.cons rfl hr.tail.head h3⟩
        | [], h, _ => cases h
        | [_], h, _ => cases h
        | _ :: _ :: _ :: _, h, _ => cases h
      | _ => cases h
theorem rep_merge : ∀ {kvs : List (Key × V)} {m : List (Ky × D)}, RepK K cl ω H kvs m → ∀ {us : List (Key × V)} {l : List (Ky × D)}, RepK K cl ω H us l → RepK K cl ω H (mergeK us kvs) (dputs l m)
  | [], m, r, us, l, q => by
    rcases r.cases_on with ⟨_, rfl⟩ | ⟨_, _, _, _, e, _⟩
    · exact q
    · cases e
  | p :: kvs, m, r, us, l, q => by
    rcases r.cases_on with ⟨e, _⟩ | ⟨p', j, vr, dr, e, rfl, e1, r1, r2⟩
    · cases e
    · cases e
      obtain ⟨p1, p2⟩ := p
      obtain ⟨j1, j2⟩ := j
      simp only at e1
      subst e1
      exact rep_merge r2 (q.put r1)
theorem Rep.newD {vs : List (Key × V)} {ds : List (Ky × D)} {p : Addr} (r : RepK K cl ω H vs ds) (hp : H p = none) (k : WOk ω H) : Rep K cl ω (L2.upd H p (.dK vs)) (.ref p) (.dct ds) := by
  have r' := r.go (Go.upd (o := HO.dK vs) hp k).st
  exact .dct upd_same (k.fresh hp) r'.1 (fun i k v q d h1 h2 => (r'.2 i k v q d h1 h2).1) fun i k v q d h1 h2 => (r'.2 i k v q d h1 h2).2
theorem seqOf_rep {l : List D} (r : RepB K cl ω H v d) (h : seqOf d = some l) : ∃ a vs, v = .ref a ∧ (SqL K H a vs ∨ SqT K H a vs) ∧ RepL K cl ω H vs l := by
  cases d with
  | tup m =>
    cases h
    obtain ⟨a, vs, e, q, z⟩ := r.tup.seqT
    exact ⟨a, vs, e, .inr q, z⟩
  | lst m =>
    cases h
    obtain ⟨a, vs, e, q, z⟩ := r.seqL
    exact ⟨a, vs, e, .inl q, z⟩
  | _ => cases h
theorem py_nodict : ∀ d : D, (D.py d).hasDict = false := by
  have h : ∀ n : Nat, (∀ d : D, sizeOf d < n → (D.py d).hasDict = false) ∧ ∀ l : List D, sizeOf l < n → PyData.hasDictAll (D.pys l) = false := by
    intro n
    induction n with
    | zero => exact ⟨fun d z => absurd z (by omega), fun l z => absurd z (by omega)⟩
    | succ n ih =>
      refine ⟨fun d z => ?_, fun l z => ?_⟩
      · cases d with
        | tup l => simp only [D.py, PyData.hasDict]; exact ih.2 l (by simp at z; omega)
        | lst l => simp only [D.py, PyData.hasDict]; exact ih.2 l (by simp at z; omega)
        | _ => rfl
      · cases l with
        | nil => rfl
        | cons d r => simp only [D.pys, PyData.hasDictAll, ih.1 d (by simp at z; omega), ih.2 r (by simp at z; omega), Bool.or_self]
  exact fun d => (h (sizeOf d + 1)).1 d (by omega)
theorem one_of {vs : List V} {d : D} (r : RepFL K cl true ω H vs [d]) : ∃ v, vs = [v] ∧ RepB K cl ω H v d := by
  cases r with
  | cons h t => cases t; exact ⟨_, rfl, h⟩
theorem two_of {vs : List V} {d e : D} (r : RepFL K cl true ω H vs [d, e]) : ∃ v w, vs = [v, w] ∧ RepB K cl ω H v d ∧ RepB K cl ω H w e := by
  cases r with
  | cons h t => cases t with
    | cons h' t' => cases t'; exact ⟨_, _, rfl, h, h'⟩
theorem bi_ok {B : Bi} {ds : List D} {vs : List V} (s : SR K cl own ω σ H δ S) (r : RepFL K cl true ω H vs ds) (q : pG K cl own (RepF K cl b) ω H σ δ Q (biD B ds S)) : rBi K B vs H Q := by
  cases B with
  | sorted =>
    match ds, r, q with
    | [d], r, q =>
      obtain ⟨v, rfl, rv⟩ := one_of r
      cases d with
      | lst l =>
        obtain ⟨a, vs, rfl, ha, ra⟩ := rv.seqL
        simp only [biD] at q
        cases e : strsOf l with
        | none => rw [e] at q; exact q.elim
        | some xs =>
          rw [e] at q
          by_cases hz : xs.length < 64
          · simp only [if_pos hz] at q
            obtain rfl := rep_strs ra e
            refine ⟨a, xs, rfl, ha, hz, fun ys p hp hs hn => ?_⟩
            obtain rfl := sortedS_eq hp hs
            exact pG.new q s hn (Rep.newL (repL_strs _) hn s.wok)
          · simp only [if_neg hz] at q
            exact q.elim
      | _ => exact q.elim
    | [], _, q => exact q.elim
    | d :: e :: l, _, q => cases d <;> first | exact q.elim | (cases e <;> exact q.elim)
  | len =>
    match ds, r, q with
    | [d], r, q =>
      obtain ⟨v, rfl, rv⟩ := one_of r
      cases d with
      | tup l =>
        obtain ⟨a, vs, rfl, ha, ra⟩ := rv.tup.seqT
        exact .inl ⟨_, _, rfl, .inr ⟨vs, ha, rfl⟩, by rw [ra.1]; exact pG.ret q s (.int _)⟩
      | lst l =>
        obtain ⟨a, vs, rfl, ha, ra⟩ := rv.seqL
        exact .inl ⟨_, _, rfl, .inl ⟨vs, ha, rfl⟩, by rw [ra.1]; exact pG.ret q s (.int _)⟩
      | frz l =>
        obtain ⟨a, vs, rfl, ha, ra⟩ := rv.seqF
        exact .inl ⟨_, _, rfl, .inl ⟨vs, ha, rfl⟩, by rw [ra.1]; exact pG.ret q s (.int _)⟩
      | dct l =>
        obtain ⟨a, vs, rfl, ha, ra⟩ := rv.dctH
        exact .inr ⟨_, _, rfl, ha, by rw [ra.1]; exact pG.ret q s (.int _)⟩
      | str x =>
        obtain rfl := rv.str
        by_cases hz : x.length ≤ line
        · simp only [biD, if_pos hz] at q
          exact .inl ⟨_, _, rfl, ⟨by rw [← line_eq]; exact hz, rfl⟩, pG.ret q s (.int _)⟩
        · simp only [biD, if_neg hz] at q
          exact q.elim
      | _ => exact q.elim
    | [], _, q => exact q.elim
    | d :: e :: l, _, q => cases d <;> first | exact q.elim | (cases e <;> exact q.elim)
  | tuple =>
    match ds, r, q with
    | [d], r, q =>
      obtain ⟨v, rfl, rv⟩ := one_of r
      cases d with
      | tup l =>
        obtain ⟨a, vs, rfl, ha, ra⟩ := rv.tup.seqT
        exact ⟨a, vs, rfl, .inr ⟨ha, pG.ret q s rv.tup⟩⟩
      | lst l =>
        obtain ⟨a, vs, rfl, ha, ra⟩ := rv.seqL
        exact ⟨a, vs, rfl, .inl ⟨ha, fun p ob hp hd => pG.new q s hp (Rep.newT ra hp hd s.wok)⟩⟩
      | _ => exact q.elim
    | [], _, q => exact q.elim
    | d :: e :: l, _, q => cases d <;> first | exact q.elim | (cases e <;> exact q.elim)
  | list =>
    match ds, r, q with
    | [d], r, q =>
      obtain ⟨v, rfl, rv⟩ := one_of r
      cases d with
      | tup l =>
        obtain ⟨a, vs, rfl, ha, ra⟩ := rv.tup.seqT
        exact ⟨a, vs, rfl, .inr ha, fun p hp => pG.new q s hp (Rep.newL ra hp s.wok)⟩
      | lst l =>
        obtain ⟨a, vs, rfl, ha, ra⟩ := rv.seqL
        exact ⟨a, vs, rfl, .inl ha, fun p hp => pG.new q s hp (Rep.newL ra hp s.wok)⟩
      | _ => exact q.elim
    | [], _, q => exact q.elim
    | d :: e :: l, _, q => cases d <;> first | exact q.elim | (cases e <;> exact q.elim)
  | dict =>
    match ds, r, q with
    | [d], r, q =>
      obtain ⟨v, rfl, rv⟩ := one_of r
      cases d with
      | dct l =>
        obtain ⟨a, vs, rfl, ha, ra⟩ := rv.dctH
        exact .inl ⟨a, vs, rfl, ha, fun p hp => pG.new q s hp (Rep.newD ra hp s.wok)⟩
      | lst l =>
        obtain ⟨a, vs, rfl, ha, ra⟩ := rv.seqL
        simp only [biD] at q
        cases e : pairsOf l with
        | none => rw [e] at q; exact q.elim
        | some m =>
          rw [e] at q
          by_cases hz : m.length ≤ line
          · simp only [if_pos hz] at q
            obtain ⟨ps, kvs, rfl, h2, h3⟩ := rep_pairs ra e
            exact .inr (.inl ⟨a, ps, kvs, rfl, ha, h2, fun p hp => pG.new q s hp (Rep.newD (rep_merge h3 RepK.nil) hp s.wok)⟩)
          · simp only [if_neg hz] at q
            exact q.elim
      | tup l =>
        obtain ⟨a, vs, rfl, ha, ra⟩ := rv.tup.ptu
        simp only [biD] at q
        cases e : pairsOf l with
        | none => rw [e] at q; exact q.elim
        | some m =>
          rw [e] at q
          by_cases hz : m.length ≤ line
          · simp only [if_pos hz] at q
            obtain ⟨ps, kvs, rfl, h2, h3⟩ := rep_pairs ra e
            exact .inr (.inr ⟨a, ps, kvs, rfl, ha, h2, fun p hp => pG.new q s hp (Rep.newD (rep_merge h3 RepK.nil) hp s.wok)⟩)
          · simp only [if_neg hz] at q
            exact q.elim
      | _ => exact q.elim
    | [], _, q => exact q.elim
    | d :: e :: l, _, q => cases d <;> first | exact q.elim | (cases e <;> exact q.elim)
  | abs =>
    match ds, r, q with
    | [d], r, q =>
      obtain ⟨v, rfl, rv⟩ := one_of r
      cases d with
      | int i => exact ⟨i, by rw [rv.int], pG.ret q s (.int _)⟩
      | _ => exact q.elim
    | [], _, q => exact q.elim
    | d :: e :: l, _, q => cases d <;> first | exact q.elim | (cases e <;> exact q.elim)
  | min =>
    match ds, r, q with
    | [d, e], r, q =>
      obtain ⟨v, w, rfl, rv, rw'⟩ := two_of r
      cases d with
      | int i => cases e with
        | int j => exact ⟨i, j, by rw [rv.int, rw'.int], pG.ret q s (.int _)⟩
        | _ => exact q.elim
      | _ => exact q.elim
    | [], _, q => exact q.elim
    | [d], _, q => cases d <;> exact q.elim
    | d :: e :: _ :: _, _, q => cases d <;> first | exact q.elim | (cases e <;> exact q.elim)
  | max =>
    match ds, r, q with
    | [d, e], r, q =>
      obtain ⟨v, w, rfl, rv, rw'⟩ := two_of r
      cases d with
      | int i => cases e with
        | int j => exact ⟨i, j, by rw [rv.int, rw'.int], pG.ret q s (.int _)⟩
        | _ => exact q.elim
      | _ => exact q.elim
    | [], _, q => exact q.elim
    | [d], _, q => cases d <;> exact q.elim
    | d :: e :: _ :: _, _, q => cases d <;> first | exact q.elim | (cases e <;> exact q.elim)
  | divmod =>
    match ds, r, q with
    | [d, e], r, q =>
      obtain ⟨v, w, rfl, rv, rw'⟩ := two_of r
      cases d with
      | int i => cases e with
        | int j =>
          by_cases hz : 0 < j ∧ j < 1073741824
          · simp only [biD, if_pos hz] at q
            exact ⟨i, j, by rw [rv.int, rw'.int], hz, fun p ob hp hd => pG.new q s hp (Rep.newT (RepL.cons (.int _) (RepL.cons (.int _) RepL.nil)) hp hd s.wok)⟩
          · simp only [biD, if_neg hz] at q
            exact q.elim
        | _ => exact q.elim
      | _ => exact q.elim
    | [], _, q => exact q.elim
    | [d], _, q => cases d <;> exact q.elim
    | d :: e :: _ :: _, _, q => cases d <;> first | exact q.elim | (cases e <;> exact q.elim)
  | int =>
    match ds, r, q with
    | [d], r, q =>
      obtain ⟨v, rfl, rv⟩ := one_of r
      cases d with
      | int i => exact .inl ⟨i, by rw [rv.int], pG.ret q s (.int _)⟩
      | bl i => exact .inr ⟨i, by rw [rv.bl], pG.ret q s (.int _)⟩
      | _ => exact q.elim
    | [], _, q => exact q.elim
    | d :: e :: l, _, q => cases d <;> first | exact q.elim | (cases e <;> exact q.elim)
  | all =>
    match ds, r, q with
    | [d], r, q =>
      obtain ⟨v, rfl, rv⟩ := one_of r
      cases d with
      | lst l =>
        obtain ⟨a, vs, rfl, ha, ra⟩ := rv.seqL
        simp only [biD] at q
        cases e : blsOf l with
        | none => rw [e] at q; exact q.elim
        | some xs =>
          rw [e] at q
          obtain rfl := rep_bls ra e
          exact ⟨a, xs, rfl, ha, pG.ret q s (.bl _)⟩
      | _ => exact q.elim
    | [], _, q => exact q.elim
    | d :: e :: l, _, q => cases d <;> first | exact q.elim | (cases e <;> exact q.elim)
  | any =>
    match ds, r, q with
    | [d], r, q =>
      obtain ⟨v, rfl, rv⟩ := one_of r
      cases d with
      | lst l =>
        obtain ⟨a, vs, rfl, ha, ra⟩ := rv.seqL
        simp only [biD] at q
        cases e : blsOf l with
        | none => rw [e] at q; exact q.elim
        | some xs =>
          rw [e] at q
          obtain rfl := rep_bls ra e
          exact ⟨a, xs, rfl, ha, pG.ret q s (.bl _)⟩
      | _ => exact q.elim
    | [], _, q => exact q.elim
    | d :: e :: l, _, q => cases d <;> first | exact q.elim | (cases e <;> exact q.elim)
  | repr =>
    have core : ∀ (v : V) (d : D), vs = [v] → RepB K cl ω H v d → (∃ a, v = .ref a) → pG K cl own (RepF K cl b) ω H σ δ Q ((if showOk d = true then (pure (.str (D.text d)) : M D) else M.no) S) → rBi K .repr vs H Q := fun v d ev rv ha q => by
      by_cases hz : showOk d = true
      · rw [if_pos hz] at q
        have z : D.plain d = true ∧ D.deep d ≤ 60 ∧ d.py.showable = true ∧ d.text.length ≤ line := by simpa [showOk] using hz
        obtain ⟨a, rfl⟩ := ha
        exact ⟨a, d.py, ev, rv.dp z.1, z.2.2.1, py_nodict d, by rw [py_depth d z.1]; omega, by rw [← line_eq]; exact z.2.2.2, pG.ret q s (.str _)⟩
      · rw [if_neg hz] at q
        exact q.elim
    match ds, r, q with
    | [d], r, q =>
      obtain ⟨v, rfl, rv⟩ := one_of r
      cases d with
      | lst l => exact core v _ rfl rv (let ⟨a, _, e, _⟩ := rv.seqL; ⟨a, e⟩) q
      | tup l => exact core v _ rfl rv (let ⟨a, _, e, _⟩ := rv.tup.seqT; ⟨a, e⟩) q
      | _ => exact q.elim
    | [], _, q => exact q.elim
    | d :: e :: l, _, q => cases d <;> first | exact q.elim | (cases e <;> exact q.elim)
  | sortedSet => exact q.elim
  | bool => exact q.elim
  | str => exact q.elim
end
end RF
end
section
set_option linter.all false
set_option maxRecDepth 100000
set_option maxHeartbeats 4000000
set_option autoImplicit false
/-! RfEnumT: enumerate of a tuple. -/
namespace RF
open PySem PySem.Spec L2
open PyProof.Rows hiding St
open PySem.Sem (wp)
open PySem.AutoSeq1 (wpAny_loadPart')
section
variable {pg : Program} {wd : World} {AA : Around} {EE : Value → Shared → Prop} {ss : Shared}
theorem drawsTup (hh : AA.handled = none) (ti q : Addr) (hne : q ≠ ti) (vals : Array Value) :
    Draws pg wd AA ti [ti, q] vals.size (fun n v => vals[n]? = some v) (fun n hp => hp.IsTupleIter ti q n ∧ hp.IsTuple q vals) where
  live := fun _ _ z => let ⟨o, ho, _⟩ := z.1; ⟨o, ho⟩
  frame := fun _ _ _ z hk => ⟨z.1.at fun o e => hk ti (by simp) o e, z.2.at fun o e => hk q (by simp) o e⟩
  item := fun n s1 Q1 E1 hn z hQ => by
    refine RZ.nextOf_tuple_item z.1 z.2 (x := vals[n]) (by simp [hn]) fun h1 z1 y1 => ?_
    exact hQ _ h1 s1.toks (by simp [hn]) ⟨z1, z.2.extBut y1.extBut hne⟩ y1
  done := fun s1 Q1 E1 z hE => RZ.nextOf_tuple_end hh z.1 z.2 (by simp) hE
theorem meets_enumT (q : Addr) (vals : Array Value) (m : Nat) (dd : Option Addr) (sv : Array (Option Value)) :
    Meets (Builtin.«enumerate.__new__» ⟨[.type "enumerate", .ref q], []⟩) (fun _ R1 s1 => s1.heap.get? q = some { cls := .type "tuple", dict := dd, data := .seq vals m, slots := sv } ∧
      R1 (.ok (.ret (.ref (s1.heap.push { cls := .type "tuple_iterator", data := .fields #[.ref q, .int 0 0] }).objs.size)))
        { s1 with heap := (s1.heap.push { cls := .type "tuple_iterator", data := .fields #[.ref q, .int 0 0] }).push { cls := .type "enumerate", data := .fields #[.none, .bool false, .ref s1.heap.objs.size, rawInt 0, .none, .none] } }) :=
  .of_wp fun p1 w1 A1 R1 s1 z => by
    obtain ⟨hp1, gg, dd1, tk1, os1⟩ := s1; obtain ⟨z1, z⟩ := z
    have z2 := sub_enumerate
    have z3 : Heap.IsTuple (Shared.heap ⟨hp1, gg, dd1, tk1, os1⟩) q vals := ⟨_, z1, rfl, m, rfl⟩
    wp_walk using wpAny_loadPart' z1
    refine wpAny_stack_any fun y => wpAny_pure ?_
    split
    · rename_i cc _ _ _ _ _
      cases (cc == Value.type "enumerate")
      · wp_walk using wpAny_loadPart' z1, wpAny_pyIter_tuple z3
        exact ⟨_, rfl, z⟩
      · wp_walk using wpAny_loadPart' z1, wpAny_pyIter_tuple z3
        exact ⟨_, rfl, z⟩
    · wp_walk using wpAny_loadPart' z1, wpAny_pyIter_tuple z3
      exact ⟨_, rfl, z⟩
theorem call_enumT {q : Addr} {vals : Array Value} {Q1 : Value → Shared → Prop} (hL : ss.heap.IsTuple q vals)
    (z : ∀ h1, IsEnum h1 (ss.heap.objs.size + 1) ss.heap.objs.size 0 .none → h1.IsTupleIter ss.heap.objs.size q 0 → h1.objs.size = ss.heap.objs.size + 2 →
      (∀ b o, ss.heap.get? b = some o → h1.get? b = some o) → Q1 (.ref (ss.heap.objs.size + 1)) { ss with heap := h1 }) :
    wpAny (model pg wd) AA (call (.type "enumerate") [.ref q]) Q1 EE ss := by
  obtain ⟨⟨cc, dd, dt, sv⟩, hl1, hc1, m, hd1⟩ := hL
  replace hc1 : cc = .type "tuple" := hc1
  replace hd1 : dt = .seq vals m := hd1
  subst hc1 hd1
  refine callType_new F.called_enumerate (by decide) (F.typeCall_enumerate_1 _) (F.newCall_enumerate_1 _) (fun obj1 => F.args_object_init_2 obj1 _) F.entry_enumerate_new (meets_enumT q vals m dd sv) ⟨hl1, ?_⟩
  have hz : (ss.heap.push { cls := .type "tuple_iterator", data := .fields #[.ref q, .int 0 0] }).objs.size = ss.heap.objs.size + 1 := Heap.size_push ..
  show _ ∧ _
  rw [hz]
  have he : IsEnum ((ss.heap.push { cls := .type "tuple_iterator", data := .fields #[.ref q, .int 0 0] }).push { cls := .type "enumerate", data := .fields #[.none, .bool false, .ref ss.heap.objs.size, rawInt 0, .none, .none] }) (ss.heap.objs.size + 1) ss.heap.objs.size 0 .none := by
    have y := Heap.get?_push_size (ss.heap.push { cls := .type "tuple_iterator", data := .fields #[.ref q, .int 0 0] }) (o := { cls := .type "enumerate", data := .fields #[.none, .bool false, .ref ss.heap.objs.size, rawInt 0, .none, .none] }) rfl
    rw [hz] at y; exact y
  refine ⟨⟨_, he, rfl⟩, z _ he ⟨_, Heap.get?_push_of_some _ (Heap.get?_push_size _ rfl), rfl, rfl⟩ (by rw [Heap.size_push, hz]) fun b o y => Heap.get?_push_of_some _ (Heap.get?_push_of_some _ y)⟩
end
/-- a tuple's items, each in a new pair with its place -/
def ItnT (K : PySem.W.Frag) (q : Addr) : It :=
  ⟨fun n H => ∃ (xs : List V) (x : V), SqT K H q xs ∧ xs[n]? = some x, fun n H v H1 => ∃ T o x, v = .ref T ∧ H T = none ∧ o.dict = none ∧ H1 = L2.upd H T (.frz o (.tup [.int (n : Nat), x])) ∧ ∀ xs, SqT K H q xs → xs[n]? = some x, fun n H => ∃ xs : List V, SqT K H q xs ∧ xs.length ≤ n⟩
theorem walk_enumT {K : PySem.W.Frag} {q : Addr} {xs : List V} : Walk (ItnT K q) xs.length (fun H => SqT K H q xs) (YPr (fun n => some (.int (n : Nat))) (fun n => xs[n]?)) := by
  refine ⟨fun n _ hn y => ⟨xs, xs[n], y, by simp [hn]⟩, fun _ y => ⟨xs, y, Nat.le_refl _⟩, fun n H v H1 _ y z => ?_⟩
  obtain ⟨T, o, x, h1, h2, h5, h3, h4⟩ := z
  exact ⟨T, o, .int (n : Nat), x, h1, h2, h5, h3, rfl, h4 xs y⟩
theorem turn_enumT {P1 : Program} {w1 : World} {K : PySem.W.Frag} {els : List Expr} {k1 : Nat} {tp : Pos} (q e it : Addr) :
    Turn P1 w1 K (.Tuple els k1 tp) (ItnT K q) [e, it] e (fun n hp => (∃ old, IsEnum hp e it ((n : Nat) : Int) old) ∧ hp.IsTupleIter it q n ∧ e ≠ it) where
  mem := by simp
  obj := fun n hp y b hb => by
    obtain ⟨⟨old, he⟩, ⟨o, ho, hc, hd⟩, _⟩ := y
    have hbb : b = e ∨ b = it := by simpa using hb
    rcases hbb with z | z
    · rw [z]; exact ⟨_, he, fun v z => nomatch z⟩
    · rw [z]; exact ⟨o, ho, fun v z => by rw [hd] at z; cases z⟩
  keep := fun n hp h1 y k => let ⟨⟨old, he⟩, hi, hne⟩ := y; ⟨⟨old, k e (by simp) _ he⟩, hi.at fun o z => k it (by simp) o z, hne⟩
  item := by
    intro X hP hw hK hc n pins s σ H E I hf y hg
    subst hP hw hK
    obtain ⟨⟨old, he⟩, hit, hne⟩ := y
    obtain ⟨xs, x, hq, hx⟩ := hg
    obtain ⟨its, rv, p, hz⟩ := I.tuple hq
    obtain ⟨u, hu, ru⟩ := rv.get hx
    have h1 : e < s.heap.objs.size := Heap.lt_size he
    have h2 : it < s.heap.objs.size := by obtain ⟨_, z, _⟩ := hit; exact Heap.lt_size z
    have hta : s.heap.IsTuple q its.toArray := p
    have hqi : q ≠ it := fun z => by
      obtain ⟨o1, g1, c1, _⟩ := hta
      obtain ⟨o2, g2, c2, _⟩ := hit
      rw [z, g2] at g1
      cases g1
      rw [c2] at c1
      exact absurd c1 (by decide)
    have hqe : e ∉ [it, q] := fun z => by
      have hz' : e = it ∨ e = q := by simpa using z
      rcases hz' with z | z
      · exact hne z
      · obtain ⟨o1, g1, c1, _⟩ := hta
        rw [← z, he] at g1
        cases g1
        have c2 : Value.type "enumerate" = .type "tuple" := c1
        exact absurd c2 (by decide)
    have hin : X.A.in1.handled = none := I.ok.hd hc
    refine wpAny_pyNext_enum_itemD (drawsTup (AA := X.A.in1) hin it q hqi its.toArray) he ⟨hit, hta⟩ (by have y := (List.getElem?_eq_some_iff.mp hx).1; rw [rv.length] at y; simpa using y) hne hqe fun v hp1 tk hv ho hst hT hsz hk => ?_
    have evu : v = u := by
      have hv' : its.toArray[n]? = some v := hv
      have hu' : its.toArray[n]? = some u := by simpa using hu
      rw [hu'] at hv'
      cases hv'
      rfl
    subst evu
    refine ⟨_, rfl, wpAny_letOwnedTupleGo_enum (s := { s with heap := hp1, toks := tk + 1 }) ho fun hp2 he2 sb => ?_⟩
    have hT2 : hp2.get? s.heap.objs.size = some { cls := .type "tuple", data := .seq #[.int n tk, v] } := (sb.2 _ (Nat.ne_of_gt h1)).trans hT
    have new : ObjOk X.prog X.w (L2.upd H s.heap.objs.size (.frz (tupO [.int n tk, v]) (.tup [.int (n : Nat), x]))) hp2 s.heap.objs.size (.frz (tupO [.int n tk, v]) (.tup [.int (n : Nat), x])) :=
      ⟨hT2, by show 2 ≤ sizeLine; decide, [.int n tk, v], .cons ⟨_, rfl⟩ (.cons ru .nil), ⟨_, hT2, rfl, _, rfl⟩⟩
    have I1 : Inv X pins σ (L2.upd H s.heap.objs.size (.frz (tupO [.int n tk, v]) (.tup [.int (n : Nat), x]))) { s with heap := hp2, toks := tk + 1 } :=
      I.turnedNew (ch := [e, it]) (fun b ob hb z => (sb.2 b (fun z => hb (by simp [z]))).trans (hk b ob (fun z => hb (by simp [z])) (fun z => hb (by simp [z])) z)) hf (Nat.le_refl _) new
    refine ⟨.ref s.heap.objs.size, _, I1, rfl, ⟨_, tupO [.int n tk, v], x, rfl, I.hok.fresh (Nat.le_refl _), rfl, rfl, fun ys hy => by rw [I.tuple_inj hy hq]; exact hx⟩, ⟨⟨v, ?_⟩, hst.1.at fun o z => (sb.2 it (Ne.symm hne)).trans z, hne⟩, fun b hb => ?_⟩
    · have e1 : ((n + 1 : Nat) : Int) = (n : Int) + 1 := by omega
      rw [e1]; exact he2
    · have hb' : b < s.heap.objs.size := by
        have hbb : b = e ∨ b = it := by simpa using hb
        rcases hbb with z | z
        · rw [z]; exact h1
        · rw [z]; exact h2
      rw [upd_ne (Nat.ne_of_lt hb')]
      exact (hf b hb).1
  done := by
    intro X hP hw hK hc n pins s σ H E I hf y hg
    subst hP hw hK
    obtain ⟨⟨old, he⟩, hit, hne⟩ := y
    obtain ⟨xs, hq, hx⟩ := hg
    obtain ⟨its, rv, p, hz⟩ := I.tuple hq
    obtain ⟨f0, f1, f2, f3, f4, f5⟩ := hf it (by simp)
    have hta : s.heap.IsTuple q its.toArray := p
    have hT : s.TypeIs (.ref e) "enumerate" := ⟨_, he, rfl⟩
    unfold pyNext
    refine wpAny_bind (wpAny_attempt (wpAny_callSpecial?_slot (name := Str.ofString "__next__") hT F.slot_enumerate_next (wpAny_call_entry F.slot_enumerate_next hT F.entry_enumerate_next ?_ (F.args_enumerate_next_1 _))))
    show wpAny _ _ (field (.ref e) 2 >>= _) _ _ _
    refine wpAny_bind (wpAny_field he rfl (x := .ref it) rfl ?_)
    have hlen := rv.length
    refine wpAny_bind (RZ.nextOf_tuple_end (I.ok.hd hc) hit hta (by simp; omega) fun h1 x1 he1 hx1 => ?_)
    obtain ⟨o, ho, hc1⟩ := hx1
    refine wpAny_bind (wpAny_isInstance (T := "StopIteration") (b := true) ⟨o, ho, hc1⟩ isSubtype_stop ?_)
    exact wpAny_pure ⟨rfl, I.turned (t' := s.toks) (fun b o hb z => he1 b o hb z) f0 f1 f3 f4 f5⟩
  self := fun A1 n s Q1 E1 y z => let ⟨⟨_, he⟩, _⟩ := y; wpAny_pyIter_enum he z
def iEnumT (K : PySem.W.Frag) (ta : TA) : TI := fun σ H R => ta σ H fun vs H1 => ∃ q xs, vs = [.ref q] ∧ SqT K H1 q xs ∧ R (ItnT K q) H1
theorem pi_enumT {X : Cx} {e : Expr} {ta : TA} {p1 p2 tp : Pos} {els : List Expr} {k1 : Nat} (hg : Gl X "enumerate") (hm : X.mg "enumerate" = none) (ha : PA X [e] ta) (hs : starEach [e] X.env = [(false, eval e X.env)]) :
    PI X (.Tuple els k1 tp) (.Call (.Name "enumerate" p1) [e] [] p2) (iEnumT X.K ta) := by
  refine ⟨fun pins s σ H R I h => ?_⟩
  refine Call_ (ld_blt I hg hm boot_enumerate (PyProof.Rows.callWith_type1 (thn (ha.run p2 pins s σ H _ I h) fun us s1 ⟨vs, H1, I1, r1, q1⟩ => ?_) hs rfl))
  obtain ⟨q, xs, ex, hq, z⟩ := q1
  subst ex
  cases r1 with
  | cons r rr =>
    cases rr
    cases r
    obtain ⟨its, rv, y, hz⟩ := I1.tuple hq
    have hta : s1.heap.IsTuple q its.toArray := y
    refine call_enumT hta fun h1 he hit hsz hk => wpAny_pyIter_enum he ?_
    have I2 : Inv X pins σ H1 { s1 with heap := h1 } := I1.kept (t' := s1.toks) hk
    refine ⟨s1.heap.objs.size + 1, [s1.heap.objs.size + 1, s1.heap.objs.size], _, _, H1, rfl, I2, turn_enumT q (s1.heap.objs.size + 1) s1.heap.objs.size, ⟨⟨.none, he⟩, hit, Nat.succ_ne_self _⟩, fun b hb => ?_, z⟩
    have hbb : b = s1.heap.objs.size + 1 ∨ b = s1.heap.objs.size := by simpa using hb
    have hle : s1.heap.objs.size ≤ b := by
      rcases hbb with z | z
      · rw [z]; exact Nat.le_add_right _ _
      · rw [z]; exact Nat.le_refl _
    exact I1.fpOk hle (I1.hok.fresh hle)
/-- a list's items, each in a new pair with its place -/
def ItnL (K : PySem.W.Frag) (q : Addr) : It :=
  ⟨fun n H => ∃ (xs : List V) (x : V), SqL K H q xs ∧ xs[n]? = some x, fun n H v H1 => ∃ T o x, v = .ref T ∧ H T = none ∧ o.dict = none ∧ H1 = L2.upd H T (.frz o (.tup [.int (n : Nat), x])) ∧ ∀ xs, SqL K H q xs → xs[n]? = some x, fun n H => ∃ xs : List V, SqL K H q xs ∧ xs.length ≤ n⟩
theorem walk_enumL {K : PySem.W.Frag} {q : Addr} {xs : List V} : Walk (ItnL K q) xs.length (fun H => SqL K H q xs) (YPr (fun n => some (.int (n : Nat))) (fun n => xs[n]?)) := by
  refine ⟨fun n _ hn y => ⟨xs, xs[n], y, by simp [hn]⟩, fun _ y => ⟨xs, y, Nat.le_refl _⟩, fun n H v H1 _ y z => ?_⟩
  obtain ⟨T, o, x, h1, h2, h5, h3, h4⟩ := z
  exact ⟨T, o, .int (n : Nat), x, h1, h2, h5, h3, rfl, h4 xs y⟩
theorem turn_enumL {P1 : Program} {w1 : World} {K : PySem.W.Frag} {els : List Expr} {k1 : Nat} {tp : Pos} (q e it : Addr) :
    Turn P1 w1 K (.Tuple els k1 tp) (ItnL K q) [e, it] e (fun n hp => (∃ old, IsEnum hp e it ((n : Nat) : Int) old) ∧ hp.IsListIter it q n ∧ e ≠ it) where
  mem := by simp
  obj := fun n hp y b hb => by
    obtain ⟨⟨old, he⟩, ⟨o, ho, hc, hd⟩, _⟩ := y
    have hbb : b = e ∨ b = it := by simpa using hb
    rcases hbb with z | z
    · rw [z]; exact ⟨_, he, fun v z => nomatch z⟩
    · rw [z]; exact ⟨o, ho, fun v z => by rw [hd] at z; cases z⟩
  keep := fun n hp h1 y k => let ⟨⟨old, he⟩, hi, hne⟩ := y; ⟨⟨old, k e (by simp) _ he⟩, hi.at fun o z => k it (by simp) o z, hne⟩
  item := by
    intro X hP hw hK hc n pins s σ H E I hf y hg
    subst hP hw hK
    obtain ⟨⟨old, he⟩, hit, hne⟩ := y
    obtain ⟨xs, x, hq, hx⟩ := hg
    obtain ⟨its, rv, p, hz⟩ := I.list hq
    obtain ⟨u, hu, ru⟩ := rv.get hx
    have h1 : e < s.heap.objs.size := Heap.lt_size he
    have h2 : it < s.heap.objs.size := by obtain ⟨_, z, _⟩ := hit; exact Heap.lt_size z
    have hta : s.heap.IsList q its.toArray := p.isList
    have hqi : q ≠ it := fun z => by
      obtain ⟨o1, g1, c1, _⟩ := hta
      obtain ⟨o2, g2, c2, _⟩ := hit
      rw [z, g2] at g1
      cases g1
      rw [c2] at c1
      exact absurd c1 (by decide)
    have hqe : e ∉ [it, q] := fun z => by
      have hz' : e = it ∨ e = q := by simpa using z
      rcases hz' with z | z
      · exact hne z
      · obtain ⟨o1, g1, c1, _⟩ := hta
        rw [← z, he] at g1
        cases g1
        have c2 : Value.type "enumerate" = .type "list" := c1
        exact absurd c2 (by decide)
    have hin : X.A.in1.handled = none := I.ok.hd hc
    refine wpAny_pyNext_enum_itemD (Draws.list (A := X.A.in1) hin it q hqi its.toArray) he ⟨hit, hta⟩ (by have y := (List.getElem?_eq_some_iff.mp hx).1; rw [rv.length] at y; simpa using y) hne hqe fun v hp1 tk hv ho hst hT hsz hk => ?_
    have evu : v = u := by
      have hv' : its.toArray[n]? = some v := hv
      have hu' : its.toArray[n]? = some u := by simpa using hu
      rw [hu'] at hv'
      cases hv'
      rfl
    subst evu
    refine ⟨_, rfl, wpAny_letOwnedTupleGo_enum (s := { s with heap := hp1, toks := tk + 1 }) ho fun hp2 he2 sb => ?_⟩
    have hT2 : hp2.get? s.heap.objs.size = some { cls := .type "tuple", data := .seq #[.int n tk, v] } := (sb.2 _ (Nat.ne_of_gt h1)).trans hT
    have new : ObjOk X.prog X.w (L2.upd H s.heap.objs.size (.frz (tupO [.int n tk, v]) (.tup [.int (n : Nat), x]))) hp2 s.heap.objs.size (.frz (tupO [.int n tk, v]) (.tup [.int (n : Nat), x])) :=
      ⟨hT2, by show 2 ≤ sizeLine; decide, [.int n tk, v], .cons ⟨_, rfl⟩ (.cons ru .nil), ⟨_, hT2, rfl, _, rfl⟩⟩
    have I1 : Inv X pins σ (L2.upd H s.heap.objs.size (.frz (tupO [.int n tk, v]) (.tup [.int (n : Nat), x]))) { s with heap := hp2, toks := tk + 1 } :=
      I.turnedNew (ch := [e, it]) (fun b ob hb z => (sb.2 b (fun z => hb (by simp [z]))).trans (hk b ob (fun z => hb (by simp [z])) (fun z => hb (by simp [z])) z)) hf (Nat.le_refl _) new
    refine ⟨.ref s.heap.objs.size, _, I1, rfl, ⟨_, tupO [.int n tk, v], x, rfl, I.hok.fresh (Nat.le_refl _), rfl, rfl, fun ys hy => by rw [I.list_inj hy hq]; exact hx⟩, ⟨⟨v, ?_⟩, hst.1.at fun o z => (sb.2 it (Ne.symm hne)).trans z, hne⟩, fun b hb => ?_⟩
    · have e1 : ((n + 1 : Nat) : Int) = (n : Int) + 1 := by omega
      rw [e1]; exact he2
    · have hb' : b < s.heap.objs.size := by
        have hbb : b = e ∨ b = it := by simpa using hb
        rcases hbb with z | z
        · rw [z]; exact h1
        · rw [z]; exact h2
      rw [upd_ne (Nat.ne_of_lt hb')]
      exact (hf b hb).1
  done := by
    intro X hP hw hK hc n pins s σ H E I hf y hg
    subst hP hw hK
    obtain ⟨⟨old, he⟩, hit, hne⟩ := y
    obtain ⟨xs, hq, hx⟩ := hg
    obtain ⟨its, rv, p, hz⟩ := I.list hq
    obtain ⟨f0, f1, f2, f3, f4, f5⟩ := hf it (by simp)
    have hta : s.heap.IsList q its.toArray := p.isList
    have hT : s.TypeIs (.ref e) "enumerate" := ⟨_, he, rfl⟩
    unfold pyNext
    refine wpAny_bind (wpAny_attempt (wpAny_callSpecial?_slot (name := Str.ofString "__next__") hT F.slot_enumerate_next (wpAny_call_entry F.slot_enumerate_next hT F.entry_enumerate_next ?_ (F.args_enumerate_next_1 _))))
    show wpAny _ _ (field (.ref e) 2 >>= _) _ _ _
    refine wpAny_bind (wpAny_field he rfl (x := .ref it) rfl ?_)
    have hlen := rv.length
    refine wpAny_bind (wpAny_nextOf_list_end (I.ok.hd hc) hit hta (by simp; omega) fun h1 x1 he1 hx1 => ?_)
    obtain ⟨o, ho, hc1⟩ := hx1
    refine wpAny_bind (wpAny_isInstance (T := "StopIteration") (b := true) ⟨o, ho, hc1⟩ isSubtype_stop ?_)
    exact wpAny_pure ⟨rfl, I.turned (t' := s.toks) (fun b o hb z => he1 b o hb z) f0 f1 f3 f4 f5⟩
  self := fun A1 n s Q1 E1 y z => let ⟨⟨_, he⟩, _⟩ := y; wpAny_pyIter_enum he z
def iEnumL (K : PySem.W.Frag) (ta : TA) : TI := fun σ H R => ta σ H fun vs H1 => ∃ q xs, vs = [.ref q] ∧ SqL K H1 q xs ∧ R (ItnL K q) H1
theorem pi_enumL {X : Cx} {e : Expr} {ta : TA} {p1 p2 tp : Pos} {els : List Expr} {k1 : Nat} (hg : Gl X "enumerate") (hm : X.mg "enumerate" = none) (ha : PA X [e] ta) (hs : starEach [e] X.env = [(false, eval e X.env)]) :
    PI X (.Tuple els k1 tp) (.Call (.Name "enumerate" p1) [e] [] p2) (iEnumL X.K ta) := by
  refine ⟨fun pins s σ H R I h => ?_⟩
  refine Call_ (ld_blt I hg hm boot_enumerate (PyProof.Rows.callWith_type1 (thn (ha.run p2 pins s σ H _ I h) fun us s1 ⟨vs, H1, I1, r1, q1⟩ => ?_) hs rfl))
  obtain ⟨q, xs, ex, hq, z⟩ := q1
  subst ex
  cases r1 with
  | cons r rr =>
    cases rr
    cases r
    obtain ⟨its, rv, y, hz⟩ := I1.list hq
    have hta : s1.heap.IsList q its.toArray := y.isList
    refine call_enumerate_list hta fun h1 he hit hsz hk => wpAny_pyIter_enum he ?_
    have I2 : Inv X pins σ H1 { s1 with heap := h1 } := I1.kept (t' := s1.toks) hk
    refine ⟨s1.heap.objs.size + 1, [s1.heap.objs.size + 1, s1.heap.objs.size], _, _, H1, rfl, I2, turn_enumL q (s1.heap.objs.size + 1) s1.heap.objs.size, ⟨⟨.none, he⟩, hit, Nat.succ_ne_self _⟩, fun b hb => ?_, z⟩
    have hbb : b = s1.heap.objs.size + 1 ∨ b = s1.heap.objs.size := by simpa using hb
    have hle : s1.heap.objs.size ≤ b := by
      rcases hbb with z | z
      · rw [z]; exact Nat.le_add_right _ _
      · rw [z]; exact Nat.le_refl _
    exact I1.fpOk hle (I1.hok.fresh hle)
end RF
end
section
set_option linter.all false
set_option maxRecDepth 100000
set_option maxHeartbeats 4000000
set_option autoImplicit false
/-! RfSnd9: calls of builtins, slices; what is walked; comprehensions. -/
namespace RF
open PySem PySem.Spec L2
open PyProof.Rows hiding St

section
variable {K : PySem.W.Frag} {cl : Nat → Addr} {own : List Nat} {X : Cx} {a c e : Expr} {es : List Expr} {p pos p2 : Pos} {f g : En → M D} {gs : En → M (List D)} {b : Bool}
theorem re_bi {x : Str} {B : Bi} {k : Nat} (hr : Room k X.A) (hcalm : X.calm = true) (gd : X.A.guards = some []) (hx : x = biNm B) (hg : Gl X x) (hm : X.mg x = none) (ha : PA X (e :: es) (tA X.K cl own true gs)) (hs : okShape e = true) (hs2 : es.all okShape = true) : PE X (.Call (.Name x p) (e :: es) [] pos) (tE X.K cl own b fun δ => do biD B (← gs δ)) := by
  refine (pe_bi B hx (op_bi hcalm (hu_cmp hr) gd B) hg hm ha hs hs2).imp fun σ H Q ⟨ω, δ, S, s, q⟩ => ⟨ω, δ, S, s, ?_⟩
  dsimp only at q
  rw [M.bind_run] at q
  cases e : gs δ S with
  | exc _ _ => rw [e] at q; exact q.elim
  | no => rw [e] at q; exact q.elim
  | ok ds S1 =>
    rw [e] at q
    intro ω1 vs H1 g1 s1 r1
    exact bi_ok s1 r1 (pG.go q g1)

/-! ### slices -/
theorem ro_none : PO X none (tO K cl own fun _ => pure none) := po_none.imp fun σ H Q ⟨ω, δ, S, s, q⟩ => q ω none H (Go.refl _ _) s rfl
theorem ro_some (h : PE X e (tE K cl own true f)) : PO X (some e) (tO K cl own fun δ => do
    match ← f δ with
    | .int i => pure (some i)
    | _ => M.no) := by
  refine (po_some h).imp fun σ H Q ⟨ω, δ, S, s, q⟩ => ⟨ω, δ, S, s, pG_bind q fun ω1 v H1 x S1 g1 s1 r1 q1 => ?_⟩
  cases x with
  | int i => exact ⟨i, RepB.int r1, q1 ω1 _ H1 (Go.refl _ _) s1 rfl⟩
  | _ => exact q1.elim
theorem cut_rep {ω : Wd} {H : Hp} {vs : List V} {ds : List D} (r : RepL K cl ω H vs ds) (lo hi : Option Int) : RepL K cl ω H (cutV vs lo hi) (cutL ds lo hi) := by
  have e : ∀ (n d : Nat) (o : Option Int), HT.sIx n d o = cutIx n d o := fun n d o => by cases o <;> rfl
  unfold cutV cutL
  rw [e, e, r.1]
  exact (r.drop _).take _
theorem cut_whole {ds : List D} {lo hi : Option Int} (h1 : cutIx ds.length 0 lo = 0) (h2 : cutIx ds.length ds.length hi = ds.length) : cutL ds lo hi = ds := by
  unfold cutL
  rw [h1, h2]
  simp
theorem re_cut {lo hi : Option Expr} {tl th : En → M (Option Int)} (he : PE X e (tE X.K cl own true f)) (hl : PO X lo (tO X.K cl own tl)) (hh : PO X hi (tO X.K cl own th)) : PE X (.Subscript e (.Slice lo hi none p2) pos) (tE X.K cl own b fun δ => do
    let x ← f δ
    let l ← tl δ
    let h ← th δ
    M.ofO (cutD x l h)) := by
  refine (pe_slice (sl_list.or (sl_tupF.or sl_str)) he hl hh).imp fun σ H Q ⟨ω, δ, S, s, q⟩ => ⟨ω, δ, S, s, pG_bind q fun ω1 v H1 x S1 g1 s1 r1 q1 => ?_⟩
  refine ⟨ω1, δ, S1, s1, pG_bind q1 fun ω2 l H2 l' S2 g2 s2 r2 q2 => ?_⟩
  refine ⟨ω2, δ, S2, s2, pG_bind q2 fun ω3 h H3 h' S3 g3 s3 r3 q3 => ?_⟩
  subst r2
  subst r3
  have r : RepB X.K cl ω3 H3 v x := RepB.go (RepB.go r1 g2 s1.wok) g3 s2.wok
  cases x with
  | lst ds =>
    obtain ⟨q, vs, rfl, hq, rq⟩ := r.seqL
    exact .inl ⟨q, vs, rfl, hq, fun p hp => pG.new q3 s3 hp (Rep.newL (cut_rep rq _ _) hp s3.wok)⟩
  | frz ds =>
    obtain ⟨q, vs, rfl, hq, rq⟩ := r.seqF
    exact .inl ⟨q, vs, rfl, hq, fun p hp => pG.new q3 s3 hp (Rep.newL (cut_rep rq _ _) hp s3.wok)⟩
  | tup ds =>
    have rt := r.tup
    obtain ⟨q, vs, rfl, hq, rq⟩ := rt.seqT
    refine .inr (.inl ⟨q, vs, rfl, hq, fun z => ?_, fun _ p ob hp hd => pG.new q3 s3 hp (Rep.newT (cut_rep rq _ _) hp hd s3.wok)⟩)
    have e : ∀ (n d : Nat) (o : Option Int), HT.sIx n d o = cutIx n d o := fun n d o => by cases o <;> rfl
    rw [e, e, rq.1] at z
    have q4 : pG X.K cl own (RepF X.K cl b) ω3 H3 σ δ Q (.ok (.tup ds) S3) := by
      have := q3
      simp only [cutD, cut_whole z.1 z.2] at this
      exact this
    exact pG.ret q4 s3 rt
  | str z =>
    by_cases hz : z.length ≤ line
    · simp only [cutD, if_pos hz] at q3
      have e : ∀ (n d : Nat) (o : Option Int), HT.sIx n d o = cutIx n d o := fun n d o => by cases o <;> rfl
      have e2 : cutS z l h = ⟨(cutL z.cps.toList l h).toArray⟩ := by
        unfold cutS cutL
        rw [e, e]
        rfl
      refine .inr (.inr ⟨z, r.str, by rw [← line_eq]; exact hz, ?_⟩)
      rw [e2]
      exact pG.ret q3 s3 (.str _)
    · simp only [cutD, if_neg hz] at q3
      exact q3.elim
  | _ => exact q3.elim
end

/-! ### what is walked -/
/-- turns over items; M: the own slots that a turn may change -/
def Pk (K : PySem.W.Frag) (cl : Nat → Addr) (M : List Nat) (ω : Wd) (H : Hp) (items : List D) (J : It) : Prop :=
  ∃ G Y, Walk J items.length G Y ∧ (∀ ω1 H1, GoS M ω H ω1 H1 → G H1) ∧ ∀ (i : Nat) ω1 H1 x H2, i < items.length → GoS M ω H ω1 H1 → WOk ω1 H1 → Y i H1 x H2 →
    (H2 = H1 ∨ ∃ T o, H1 T = none ∧ H2 = L2.upd H1 T o) ∧ ∃ d, items[i]? = some d ∧ Rep K cl ω1 H2 x d
/-- the own slot that an item list may be read from; it must not be changed by the turns -/
def srcOf : X → Option Nat
  | .var i => some i
  | _ => none
section
variable {K : PySem.W.Frag} {cl : Nat → Addr} {own : List Nat} {X : Cx} {a c e tg : Expr} {es : List Expr} {p pos p2 : Pos} {f g : En → M D} {gs : En → M (List D)} {b : Bool} {Mu : List Nat}
/-- readings of what is walked -/
def tI (K : PySem.W.Frag) (cl : Nat → Addr) (own : List Nat) (Mu : List Nat) (f : En → M (List D)) : TI := fun σ H R => ∃ ω δ S, SR K cl own ω σ H δ S ∧ (match f δ S with
  | .ok items S' => ∀ ω' H' J, Go ω H ω' H' → SR K cl own ω' σ H' δ S' → Pk K cl Mu ω' H' items J → R J H'
  | _ => False)
theorem Pk.seq {ω : Wd} {H : Hp} {q : Addr} {vs : List V} {ds : List D} {J : It} {G : Hp → Prop} (w : Walk J vs.length G (YAt vs)) (r : RepL K cl ω H vs ds) (hG : ∀ ω1 H1, GoS Mu ω H ω1 H1 → G H1) : Pk K cl Mu ω H ds J := by
  rw [r.1] at w
  refine ⟨G, _, w, hG, fun i ω1 H1 x H2 hi go wok y => ?_⟩
  obtain ⟨rfl, hx⟩ := y
  obtain ⟨d, hd, rd⟩ := r.atV hx
  exact ⟨.inl rfl, d, hd, rd.go go⟩
/-- a list that stays: it is data, or in an own slot that the turns leave alone -/
theorem stays {ω : Wd} {H : Hp} {σ : L2.St} {δ : En} {S : Sto} {v : V} {d : D} (s : SR K cl own ω σ H δ S) (r : RepB K cl ω H v d) (hM : ∀ a i, v = .ref a → ω.ow i = some a → i ∉ Mu) {q : Addr} {o : HO} (e : v = .ref q) (h : H q = some o) (hn : (∃ l, d = .lst l) ∨ ∃ l, d = .dct l) : ∀ ω1 H1, GoS Mu ω H ω1 H1 → H1 q = some o := by
  intro ω1 H1 go
  subst e
  have hq : q ∉ ω.rho := by
    rcases r with r | ⟨a, i, e, hi, _⟩
    · rcases hn with ⟨l, rfl⟩ | ⟨l, rfl⟩
      · cases r with
        | lst _ n _ _ => exact fun z => n (.inl z)
      · cases r with
        | dct _ n _ _ _ => exact fun z => n (.inl z)
    · cases e; exact (s.wok.ow i _ hi).2.1
  exact go.keep q o h hq fun i hi z => hM q i rfl z hi
/-- read, and if it is a list then none that the turns change -/
def RepW (K : PySem.W.Frag) (cl : Nat → Addr) (Mu : List Nat) (ω : Wd) (H : Hp) (v : V) (d : D) : Prop := RepB K cl ω H v d ∧ ∀ l, d = .lst l → ∀ a i, v = .ref a → ω.ow i = some a → i ∉ Mu
theorem ri_seq (he : PE X e (tG X.K cl own (RepW X.K cl Mu) f)) :
    PI X tg e (tI X.K cl own Mu fun δ => do M.ofO (itemsOf .seq [← f δ])) := by
  refine (PI.or (pi_list he) (PI.or (pi_tup he) (pi_str he))).imp fun σ H R ⟨ω, δ, S, s, q⟩ => ?_
  dsimp only at q
  rw [M.bind_run] at q
  have go : ∀ T : V → Hp → Prop, (∀ ω1 v H1 d S1, f δ S = .ok d S1 → Go ω H ω1 H1 → SR X.K cl own ω1 σ H1 δ S1 → RepW X.K cl Mu ω1 H1 v d → T v H1) → tG X.K cl own (RepW X.K cl Mu) f σ H T := fun T hT => by
    refine ⟨ω, δ, S, s, ?_⟩
    cases e : f δ S with
    | ok d S1 => exact fun ω1 v H1 g1 s1 r1 => hT ω1 v H1 d S1 e g1 s1 r1
    | exc _ _ => rw [e] at q; exact q.elim
    | no => rw [e] at q; exact q.elim
  cases e : f δ S with
  | exc _ _ => rw [e] at q; exact q.elim
  | no => rw [e] at q; exact q.elim
  | ok d S1 =>
    rw [e] at q
    cases d with
    | lst l =>
      refine .inl (go _ fun ω1 v H1 d S2 e2 g1 s1 r1 => ?_)
      rw [e] at e2; cases e2
      obtain ⟨r1, hst⟩ := r1
      have hst := hst l rfl
      obtain ⟨q', vs, rfl, hq, rq⟩ := r1.lstH
      refine ⟨q', rfl, ⟨vs, .inl (.inl hq)⟩, q ω1 H1 _ g1 s1 (Pk.seq (q := q') walk_list rq fun ω2 H2 go => .inl (.inl (stays s1 r1 hst rfl hq (.inl ⟨l, rfl⟩) ω2 H2 go)))⟩
    | frz l =>
      refine .inl (go _ fun ω1 v H1 d S2 e2 g1 s1 r1 => ?_)
      rw [e] at e2; cases e2
      rcases r1.1 with r1 | ⟨_, _, _, _, z⟩
      · cases r1 with
        | @frz q' vs _ h hl he' =>
          have rq : RepL X.K cl ω1 H1 vs l := ⟨hl, he'⟩
          rcases h with ⟨o, h, hn⟩ | h
          · exact ⟨q', rfl, ⟨vs, .inl (.inr ⟨o, h⟩)⟩, q ω1 H1 _ g1 s1 (Pk.seq (q := q') walk_list rq fun ω2 H2 go => .inl (.inr ⟨o, go.at h hn⟩))⟩
          · have hk : ∀ H', SqL X.K H' q' vs := fun H' => by
              rcases h with (h | ⟨o, h⟩) | h
              · cases h
              · cases h
              · exact .inr h
            exact ⟨q', rfl, ⟨vs, hk _⟩, q ω1 H1 _ g1 s1 (Pk.seq (q := q') walk_list rq fun ω2 H2 go => hk H2)⟩
      · exact z.elim
    | tup l =>
      refine .inr (.inl (go _ fun ω1 v H1 d S2 e2 g1 s1 r1 => ?_))
      rw [e] at e2; cases e2
      obtain ⟨q', vs, rfl, hq, rq⟩ := r1.1.tup.ptu
      exact ⟨q', rfl, ⟨vs, hq.sqT⟩, q ω1 H1 _ g1 s1 (Pk.seq (q := q') walk_tup rq fun ω2 H2 go => (go.ptu hq).sqT)⟩
    | str z =>
      refine .inr (.inr (go _ fun ω1 v H1 d S2 e2 g1 s1 r1 => ?_))
      rw [e] at e2; cases e2
      refine ⟨z, r1.1.str, q ω1 H1 _ g1 s1 ⟨_, _, by
        have := walk_str (z := z)
        have el : (z.cps.toList.map fun c => D.str (sgn c)).length = z.cps.size := by simp
        rw [el]
        exact this, fun _ _ _ => trivial, fun i ω2 H2 x H3 hi go wok y => ?_⟩⟩
      obtain ⟨rfl, c, hc, rfl⟩ := y
      refine ⟨.inl rfl, .str (sgn c), ?_, .str _⟩
      have hc' : z.cps.toList[i]? = some c := by simpa using hc
      simp [hc']
    | _ => exact q.elim
theorem enumL_get : ∀ (l : List D) (n i : Nat) (d : D), l[i]? = some d → (enumL n l)[i]? = some (.tup [.int (n + i : Nat), d])
  | [], _, _, _, h => by simp at h
  | x :: l, n, 0, d, h => by simp at h; simp [enumL, h]
  | x :: l, n, i + 1, d, h => by
    have := enumL_get l (n + 1) i d (by simpa using h)
    simp only [enumL, List.getElem?_cons_succ, this]
    congr 4
    omega
theorem enumL_len : ∀ (l : List D) (n : Nat), (enumL n l).length = l.length
  | [], _ => rfl
  | x :: l, n => by simp [enumL, enumL_len l (n + 1)]
/-- enumerate of a list -/
theorem Pk.enum {ω : Wd} {H : Hp} {q : Addr} {vs : List V} {ds : List D} (k : WOk ω H) (r : RepL K cl ω H vs ds) (hG : ∀ ω1 H1, GoS Mu ω H ω1 H1 → SqL K H1 q vs) : Pk K cl Mu ω H (enumL 0 ds) (ItnL K q) := by
  refine ⟨_, _, by rw [enumL_len, ← r.1]; exact walk_enumL (q := q) (xs := vs), hG, fun i ω1 H1 x H2 hi go wok y => ?_⟩
  obtain ⟨T, ob, u, w, rfl, hT, hd', rfl, e1, e2⟩ := y
  cases e1
  obtain ⟨d, hd, rd⟩ := r.atV e2
  refine ⟨.inr ⟨T, _, hT, rfl⟩, _, enumL_get ds 0 i d hd, ?_⟩
  rw [Nat.zero_add]
  exact Rep.newT (RepL.cons (.int _) (RepL.cons (rd.go go) RepL.nil)) hT hd' wok
/-- enumerate of a tuple -/
theorem Pk.enumT {ω : Wd} {H : Hp} {q : Addr} {vs : List V} {ds : List D} (k : WOk ω H) (r : RepL K cl ω H vs ds) (hG : ∀ ω1 H1, GoS Mu ω H ω1 H1 → SqT K H1 q vs) : Pk K cl Mu ω H (enumL 0 ds) (ItnT K q) := by
  refine ⟨_, _, by rw [enumL_len, ← r.1]; exact walk_enumT (q := q) (xs := vs), hG, fun i ω1 H1 x H2 hi go wok y => ?_⟩
  obtain ⟨T, ob, u, w, rfl, hT, hd', rfl, e1, e2⟩ := y
  cases e1
  obtain ⟨d, hd, rd⟩ := r.atV e2
  refine ⟨.inr ⟨T, _, hT, rfl⟩, _, enumL_get ds 0 i d hd, ?_⟩
  rw [Nat.zero_add]
  exact Rep.newT (RepL.cons (.int _) (RepL.cons (rd.go go) RepL.nil)) hT hd' wok
theorem ri_enum {x : Str} {elts : List Expr} {kk : Nat} {tpos : Pos} (hx : x = "enumerate") (hg : Gl X x) (hm : X.mg x = none) (he : PE X e (tG X.K cl own (RepW X.K cl Mu) f)) (hs : okShape e = true) : PI X (.Tuple elts kk tpos) (.Call (.Name x p) [e] [] pos) (tI X.K cl own Mu fun δ => do M.ofO (itemsOf .enum [← f δ])) := by
  subst hx
  refine (PI.or (pi_enumL hg hm (pa_cons he pa_nil (shape_star hs)) (shape_star hs)) (pi_enumT hg hm (pa_cons he pa_nil (shape_star hs)) (shape_star hs))).imp fun σ H R ⟨ω, δ, S, s, q⟩ => ?_
  dsimp only at q
  rw [M.bind_run] at q
  cases e : f δ S with
  | exc _ _ => rw [e] at q; exact q.elim
  | no => rw [e] at q; exact q.elim
  | ok d S1 =>
    rw [e] at q
    cases d with
    | lst l =>
      refine .inl ⟨ω, δ, S, s, ?_⟩
      dsimp only
      rw [e]
      intro ω1 v H1 g1 s1 r1
      obtain ⟨r1, hst⟩ := r1
      have hst := hst l rfl
      obtain ⟨q', vs, rfl, hq, rq⟩ := r1.lstH
      refine ⟨q', vs, rfl, .inl (.inl hq), q ω1 H1 _ g1 s1 (Pk.enum s1.wok rq fun ω2 H2 go => .inl (.inl (stays s1 r1 hst rfl hq (.inl ⟨l, rfl⟩) ω2 H2 go)))⟩
    | tup l =>
      refine .inr ⟨ω, δ, S, s, ?_⟩
      dsimp only
      rw [e]
      intro ω1 v H1 g1 s1 r1
      obtain ⟨q', vs, rfl, hq, rq⟩ := r1.1.tup.ptu
      exact ⟨q', vs, rfl, hq.sqT, q ω1 H1 _ g1 s1 (Pk.enumT s1.wok rq fun ω2 H2 go => (go.ptu hq).sqT)⟩
    | _ => exact q.elim
theorem rw_giv (he : PE X e (tE K cl own false f)) : PE X e (tG K cl own (RepW K cl Mu) f) := by
  refine he.imp fun σ H Q ⟨ω, δ, S, s, q⟩ => ⟨ω, δ, S, s, ?_⟩
  cases e : f δ S with
  | exc _ _ => rw [e] at q; exact q.elim
  | no => rw [e] at q; exact q.elim
  | ok d S1 =>
    rw [e] at q
    intro ω1 v H1 g1 s1 r1
    refine q ω1 v H1 g1 s1 ⟨.inl r1, fun l hl a i ea hi => ?_⟩
    subst hl
    subst ea
    cases r1 with
    | lst h n _ _ => exact absurd (.inr (.inl ⟨i, hi⟩)) n
theorem rw_var {i : Nat} {x : Str} (hN : X.N[i]? = some x) (hv : Vis X.env.scope x) (hd : (x == ("__debug__" : Str)) = false) (hcd : (x == ("__classdict__" : Str)) = false) (hi : i ∉ Mu) (ho : i ∈ own) : PE X (.Name x p) (tG K cl own (RepW K cl Mu) fun δ => getV δ i) := by
  refine (pe_var hN hv hd hcd).imp fun σ H Q ⟨ω, δ, S, s, q⟩ => ?_
  unfold getV at q
  dsimp only at q
  cases e : δ[i]? with
  | none => rw [e] at q; exact q.elim
  | some o =>
    cases o with
    | none => rw [e] at q; exact q.elim
    | some d =>
      rw [e] at q
      rcases s.osl i d e ho with ⟨a, h1, h2, h3⟩ | ⟨hm, v, h1, h2⟩
      · refine ⟨_, h1, q ω _ H (Go.refl _ _) s ⟨.inr ⟨a, i, rfl, h2, h3⟩, fun l hl b j eb hj => ?_⟩⟩
        cases eb
        rw [s.wok.inj j i a hj h2]
        exact hi
      · refine ⟨v, h1, q ω _ H (Go.refl _ _) s ⟨.inl h2, fun l hl b j eb hj => ?_⟩⟩
        subst hl
        exact absurd hm (by simp [D.imm])
theorem rangeL_get : ∀ (n : Nat) (lo : Int) (i : Nat), i < n → (rangeL n lo)[i]? = some (.int (lo + i))
  | 0, _, _, h => absurd h (by omega)
  | n + 1, lo, 0, _ => by simp [rangeL]
  | n + 1, lo, i + 1, h => by
    have := rangeL_get n (lo + 1) i (by omega)
    simp only [rangeL, List.getElem?_cons_succ, this]
    congr 2
    omega
theorem rangeL_len : ∀ (n : Nat) (lo : Int), (rangeL n lo).length = n
  | 0, _ => rfl
  | n + 1, lo => by simp [rangeL, rangeL_len n (lo + 1)]
theorem Pk.range {ω : Wd} {H : Hp} (lo : Int) (n : Nat) : Pk K cl Mu ω H (rangeL n lo) (Itr lo n) := by
  refine ⟨_, _, by rw [rangeL_len]; exact walk_range, fun _ _ _ => trivial, fun i ω1 H1 x H2 hi go wok y => ?_⟩
  obtain ⟨rfl, rfl⟩ := y
  rw [rangeL_len] at hi
  exact ⟨.inl rfl, _, rangeL_get n lo i hi, .int _⟩
theorem small_of {i : Int} (h : small i = true) : -(2 ^ 62) ≤ i ∧ i < 2 ^ 62 := by simpa [small] using h
theorem ri_range1 {x : Str} (hx : x = "range") (hg : Gl X x) (hm : X.mg x = none) (ha : PA X [a] (tA X.K cl own true gs)) (hs : okShape a = true) : PI X tg (.Call (.Name x p) [a] [] pos) (tI X.K cl own Mu fun δ => do M.ofO (itemsOf .range1 (← gs δ))) := by
  subst hx
  refine (pi_range1 hg hm ha (shape_star hs)).imp fun σ H R ⟨ω, δ, S, s, q⟩ => ⟨ω, δ, S, s, ?_⟩
  dsimp only at q
  rw [M.bind_run] at q
  cases e : gs δ S with
  | exc _ _ => rw [e] at q; exact q.elim
  | no => rw [e] at q; exact q.elim
  | ok ds S1 =>
    rw [e] at q
    intro ω1 vs H1 g1 s1 r1
    match ds, r1, q with
    | [.int j], r1, q =>
      obtain ⟨v, rfl, rv⟩ := one_of r1
      by_cases hz : small j = true
      · simp only [itemsOf, if_pos hz] at q
        obtain ⟨z1, z2⟩ := small_of hz
        exact ⟨j, by rw [rv.int], z1, z2, q ω1 H1 _ g1 s1 (Pk.range 0 _)⟩
      · simp only [itemsOf, if_neg hz] at q
        exact q.elim
    | [], _, q => exact q.elim
    | [.non], _, q | [.bl _], _, q | [.str _], _, q | [.tup _], _, q | [.lst _], _, q | [.dct _], _, q | [.ins _ _], _, q | [.obj _], _, q | [.frz _], _, q => exact q.elim
    | d :: e :: l, _, q => cases d <;> exact q.elim
theorem ri_range2 {x : Str} (hx : x = "range") (hg : Gl X x) (hm : X.mg x = none) (ha : PA X [a, c] (tA X.K cl own true gs)) (hs : okShape a = true) (hs2 : okShape c = true) : PI X tg (.Call (.Name x p) [a, c] [] pos) (tI X.K cl own Mu fun δ => do M.ofO (itemsOf .range2 (← gs δ))) := by
  subst hx
  refine (pi_range2 hg hm ha (by rw [shape_star hs, shape_star hs2]; rfl) (by rw [shape_star hs2]; rfl)).imp fun σ H R ⟨ω, δ, S, s, q⟩ => ⟨ω, δ, S, s, ?_⟩
  dsimp only at q
  rw [M.bind_run] at q
  cases e : gs δ S with
  | exc _ _ => rw [e] at q; exact q.elim
  | no => rw [e] at q; exact q.elim
  | ok ds S1 =>
    rw [e] at q
    intro ω1 vs H1 g1 s1 r1
    match ds, r1, q with
    | [d, e], r1, q =>
      obtain ⟨v, w, rfl, rv, rw'⟩ := two_of r1
      cases d with
      | int i => cases e with
        | int j =>
          by_cases hz : (small i && small j) = true
          · simp only [itemsOf, if_pos hz] at q
            obtain ⟨h1, h2⟩ := Bool.and_eq_true_iff.mp hz
            obtain ⟨z1, z2⟩ := small_of h1
            obtain ⟨z3, z4⟩ := small_of h2
            exact ⟨i, j, by rw [rv.int, rw'.int], ⟨z1, z2, z3, z4⟩, q ω1 H1 _ g1 s1 (Pk.range i _)⟩
          · simp only [itemsOf, if_neg hz] at q
            exact q.elim
        | _ => exact q.elim
      | _ => exact q.elim
    | [], _, q => exact q.elim
    | [d], _, q => cases d <;> exact q.elim
    | d :: e :: _ :: _, _, q => cases d <;> first | exact q.elim | (cases e <;> exact q.elim)
end
end RF
end
section
set_option linter.all false
set_option maxRecDepth 100000
set_option maxHeartbeats 4000000
set_option autoImplicit false
/-! RfSnd10: targets, comprehensions. -/
namespace RF
open PySem PySem.Spec L2
open PyProof.Rows hiding St

section
variable {K : PySem.W.Frag} {cl : Nat → Addr} {own : List Nat} {ω ω' ω1 : Wd} {H H' H1 : Hp} {σ σ' : L2.St} {δ δ' : En} {S S' : Sto} {v : V} {d : D} {Mu : List Nat}
theorem SR.moveS (s : SR K cl own ω σ H δ S) (g : GoS Mu ω H ω' H') (hM : ∀ i ∈ own, i ∉ Mu) (ho : ∀ i ∈ own, ω'.ow i = ω.ow i) (wok : WOk ω' H') (sto : StoOk K cl ω' H' S') : SR K cl own ω' σ H' δ S' := by
  refine ⟨s.len, wok, fun i d h1 h2 => ?_, fun i d h1 h2 => ?_, sto⟩
  · obtain ⟨v, z, y⟩ := s.slot i d h1 h2
    exact ⟨v, z, y.go g⟩
  · rcases s.osl i d h1 h2 with ⟨a, z, y, x⟩ | ⟨hm, v, z, y⟩
    case inr => exact .inr ⟨hm, v, z, y.go g⟩
    refine .inl ⟨a, z, by rw [ho i h2]; exact y, x.go g ?_⟩
    have w := s.wok.ow i a y
    cases e : H a with
    | none => exact absurd e w.1
    | some o => exact g.keep a o e w.2.1 fun j hj q => hM i h2 (by rw [s.wok.inj i j a y q]; exact hj)
theorem SR.move (s : SR K cl own ω σ H δ S) (g : Go ω H ω' H') (wok : WOk ω' H') (sto : StoOk K cl ω' H' S') : SR K cl own ω' σ H' δ S' :=
  s.moveS g.st (fun _ _ z => nomatch z) (fun i _ => by rw [g.eq]) wok sto
theorem wipe_len : ∀ (δ : En) (vs : List Nat), (RF.wipe δ vs).length = δ.length
  | _, [] => rfl
  | δ, v :: vs => by unfold RF.wipe; rw [List.length_set, wipe_len δ vs]
theorem wipe_get : ∀ {δ : En} {vs : List Nat} {i : Nat} {d : D}, (RF.wipe δ vs)[i]? = some (some d) → δ[i]? = some (some d) ∧ i ∉ vs
  | _, [], _, _, h => ⟨h, by simp⟩
  | δ, v :: vs, i, d, h => by
    unfold RF.wipe at h
    by_cases e : v = i
    · subst e
      rw [List.getElem?_set] at h
      simp only [if_true] at h
      split at h <;> cases h
    · rw [List.getElem?_set_ne e] at h
      obtain ⟨h1, h2⟩ := wipe_get h
      refine ⟨h1, fun z => ?_⟩
      rcases List.mem_cons.mp z with z | z
      · exact e z.symm
      · exact h2 z
theorem SR.wipe (s : SR K cl own ω σ H δ S) (vs : List Nat) : SR K cl own ω (L2.wipe σ vs) H (RF.wipe δ vs) S := by
  refine ⟨by rw [wipe_length, wipe_len, s.len], s.wok, fun i d h1 h2 => ?_, fun i d h1 h2 => ?_, s.sto⟩
  · obtain ⟨h3, h4⟩ := wipe_get h1
    rw [wipe_out h4]
    exact s.slot i d h3 h2
  · obtain ⟨h3, h4⟩ := wipe_get h1
    rw [wipe_out h4]
    exact s.osl i d h3 h2
theorem SR.set {i : Nat} (s : SR K cl own ω σ H δ S) (r : Rep K cl ω H v d) (hi : i ∉ own) (hl : i < δ.length) : SR K cl own ω (σ.set i (some v)) H (δ.set i (some d)) S := by
  have hl2 : i < σ.length := by rw [s.len]; exact hl
  refine ⟨by simp [s.len], s.wok, fun j e h1 h2 => ?_, fun j e h1 h2 => ?_, s.sto⟩
  · by_cases z : i = j
    · subst z
      rw [List.getElem?_set_self hl] at h1
      cases h1
      exact ⟨v, by rw [List.getElem?_set_self hl2], r⟩
    · rw [List.getElem?_set_ne z] at h1
      rw [List.getElem?_set_ne z]
      exact s.slot j e h1 h2
  · have z : i ≠ j := fun y => hi (y ▸ h2)
    rw [List.getElem?_set_ne z] at h1
    rw [List.getElem?_set_ne z]
    exact s.osl j e h1 h2
theorem Own.as {a : Addr} (r : Own K cl ω H a d) (e1 : ω'.rho = ω.rho) (e2 : ∀ b, ω'.bar b → ω.bar b) : Own K cl ω' H a d := by
  cases d with
  | lst ds => obtain ⟨vs, q, r⟩ := r; exact ⟨vs, q, r.as e1 e2⟩
  | dct ds => obtain ⟨vs, q, r⟩ := r; exact ⟨vs, q, r.as e1 e2⟩
  | ins c gs => obtain ⟨dx, fs, q, r⟩ := r; exact ⟨dx, fs, q, r.as e1 e2⟩
  | _ => exact r.elim
end

/-! ### targets -/
mutual
def Tg.slots : Tg → List Nat
  | .nm i => [i]
  | .tup l => Tg.slotsL l
def Tg.slotsL : List Tg → List Nat
  | [] => []
  | t :: r => Tg.slots t ++ Tg.slotsL r
end
section
variable (K : PySem.W.Frag) (cl : Nat → Addr) (own : List Nat)
def tGt (t : Tg) : TG := fun v σ H Q => ∃ ω δ S d, SR K cl own ω σ H δ S ∧ Rep K cl ω H v d ∧ (match bindT t d δ with
  | some δ' => ∀ σ', SR K cl own ω σ' H δ' S → (∀ vs : List Nat, (∀ i ∈ Tg.slots t, i ∈ vs) → L2.wipe σ' vs = L2.wipe σ vs) → Q σ' H
  | none => False)
def tGts (ts : List Tg) : TGs := fun vs σ H Q => ∃ ω δ S ds, SR K cl own ω σ H δ S ∧ RepL K cl ω H vs ds ∧ (match bindTs ts ds δ with
  | some δ' => ∀ σ', SR K cl own ω σ' H δ' S → (∀ vs : List Nat, (∀ i ∈ Tg.slotsL ts, i ∈ vs) → L2.wipe σ' vs = L2.wipe σ vs) → Q σ' H
  | none => False)
end
theorem wipe_set {σ : L2.St} {i : Nat} {o : Option V} : ∀ {vs : List Nat}, i ∈ vs → L2.wipe (σ.set i o) vs = L2.wipe σ vs
  | [], h => nomatch h
  | v :: vs, h => by
    unfold L2.wipe
    by_cases e : i ∈ vs
    · rw [wipe_set e]
    · have e1 : v = i := by
        rcases List.mem_cons.mp h with z | z
        · exact z.symm
        · exact absurd z e
      subst e1
      have gen : ∀ (vs : List Nat) (σ : L2.St), v ∉ vs → (L2.wipe (σ.set v o) vs).set v none = (L2.wipe σ vs).set v none := by
        intro vs
        induction vs with
        | nil => intro σ _; unfold L2.wipe; rw [List.set_set]
        | cons u us ih =>
          intro σ hn
          have hu : u ≠ v := fun z => hn (by simp [z])
          have hus : v ∉ us := fun z => hn (List.mem_cons_of_mem _ z)
          unfold L2.wipe
          rw [List.set_comm none none hu, ih σ hus, List.set_comm none none hu]
      exact gen vs σ e
section
variable {K : PySem.W.Frag} {cl : Nat → Addr} {own : List Nat} {X : Cx} {pos : Pos}
theorem PG.imp {tg : Expr} {t t' : TG} (h : PG X tg t) (k : ∀ v σ H Q, t' v σ H Q → t v σ H Q) : PG X tg t' := ⟨fun pins s σ H v u Q I r q => h.run pins s σ H v u Q I r (k v σ H Q q)⟩
theorem PGs.imp {tg : List Expr} {t t' : TGs} (h : PGs X tg t) (k : ∀ v σ H Q, t' v σ H Q → t v σ H Q) : PGs X tg t' := ⟨fun pins s σ H v u Q I r q => h.run pins s σ H v u Q I r (k v σ H Q q)⟩
theorem rg_name {x : Str} {i : Nat} (hN : X.N.Nodup) (hi : X.N[i]? = some x) (hx : Loc X.env.scope x) (hf : X.fn x = true ∨ X.env.scope.names.lookup x = some .local) (ho : i ∉ own) : PG X (.Name x pos) (tGt K cl own (.nm i)) := by
  refine PG.imp (pg_name hN hi hx hf) fun v σ H Q ⟨ω, δ, S, d, s, r, q⟩ => ?_
  unfold bindT at q
  by_cases hl : i < δ.length
  · rw [if_pos hl] at q
    exact q _ (s.set r ho hl) fun vs hv => wipe_set (hv i (by simp [Tg.slots]))
  · rw [if_neg hl] at q
    exact q.elim
theorem rgs_nil : PGs X [] (tGts K cl own []) := by
  refine PGs.imp pgs_nil fun v σ H Q ⟨ω, δ, S, ds, s, r, q⟩ => ?_
  cases ds with
  | nil => exact ⟨List.length_eq_zero_iff.mp r.1, q σ s fun _ _ => rfl⟩
  | cons _ _ => exact q.elim
theorem assign_cons {e : Expr} {es : List Expr} {env : Env} (h : okShape e = true) : (assignEach (e :: es) env).map (·.2) = assign e env :: (assignEach es env).map (·.2) := by
  cases e <;> first | rfl | cases h
theorem rgs_cons {e : Expr} {es : List Expr} {t : Tg} {ts : List Tg} (h1 : PG X e (tGt K cl own t)) (h2 : PGs X es (tGts K cl own ts)) (hs : okShape e = true) : PGs X (e :: es) (tGts K cl own (t :: ts)) := by
  refine PGs.imp (pgs_cons h1 h2 (assign_cons hs)) fun v σ H Q ⟨ω, δ, S, ds, s, r, q⟩ => ?_
  cases ds with
  | nil => exact q.elim
  | cons d ds =>
    cases v with
    | nil => have := r.1; simp at this
    | cons v vs =>
      refine ⟨v, vs, rfl, ω, δ, S, d, s, r.head, ?_⟩
      unfold bindTs at q
      cases e : bindT t d δ with
      | none => rw [e] at q; exact q.elim
      | some δ' =>
        rw [e] at q
        intro σ' s' w'
        refine ⟨ω, δ', S, ds, s', r.tail, ?_⟩
        simp only [Option.bind_some] at q
        cases e2 : bindTs ts ds δ' with
        | none => rw [e2] at q; exact q.elim
        | some δ'' =>
          rw [e2] at q
          intro σ'' s'' w''
          refine q σ'' s'' fun vs hv => ?_
          rw [w'' vs fun i hi => hv i (by simp [Tg.slotsL, hi]), w' vs fun i hi => hv i (by simp [Tg.slotsL, hi])]
theorem assign_shape : ∀ {es : List Expr} {env : Env}, es.all okShape = true → (assignEach es env).length = es.length ∧ (assignEach es env).findIdx? (·.1) = none := by
  intro es env h
  have e : assignEach es env = es.map fun t => (false, assign t env) := by
    induction es with
    | nil => rfl
    | cons t es ih =>
      rw [List.all_cons, Bool.and_eq_true] at h
      have h1 : assignEach (t :: es) env = (false, assign t env) :: assignEach es env := by
        cases t <;> first | rfl | (have := h.1; cases this)
      rw [h1, ih h.2]
      rfl
  rw [e]
  refine ⟨by simp, ?_⟩
  rw [List.findIdx?_eq_none_iff]
  intro x hx
  obtain ⟨t, _, rfl⟩ := List.mem_map.mp hx
  rfl
theorem bindTs_len : ∀ {ts : List Tg} {ds : List D} {δ δ' : En}, bindTs ts ds δ = some δ' → ds.length = ts.length
  | [], [], _, _, _ => rfl
  | [], _ :: _, _, _, h => by cases h
  | _ :: _, [], _, _, h => by cases h
  | t :: ts, d :: ds, δ, δ', h => by
    unfold bindTs at h
    cases e : bindT t d δ with
    | none => rw [e] at h; cases h
    | some δ1 =>
      rw [e] at h
      simp [bindTs_len (show bindTs ts ds δ1 = some δ' from h)]
theorem rg_tup {es : List Expr} {k : Nat} {ts : List Tg} (hc : X.calm = true) (h : PGs X es (tGts X.K cl own ts)) (hs : es.all okShape = true) (hl : es.length = ts.length) : PG X (.Tuple es k pos) (tGt X.K cl own (.tup ts)) := by
  obtain ⟨h1, h2⟩ := assign_shape (env := X.env) hs
  refine PG.imp (pg_tup (n := es.length) hc h h1 h2) fun v σ H Q ⟨ω, δ, S, d, s, r, q⟩ => ?_
  cases d with
  | tup ds =>
    obtain ⟨a, vs, rfl, ha, ra⟩ := r.seqT
    unfold bindT at q
    cases e : bindTs ts ds δ with
    | none => rw [e] at q; exact q.elim
    | some δ' =>
      refine ⟨a, vs, rfl, ha, by rw [ra.1, bindTs_len e, hl], ω, δ, S, ds, s, ra, ?_⟩
      rw [e] at q ⊢
      exact fun σ' s' w' => q σ' s' w'
  | _ => exact q.elim

/-! ### comprehensions -/
theorem Rep.chg {ω : Wd} {H H' : Hp} {v : V} {d : D} (r : Rep K cl ω H v d) (h1 : ∀ a o, H a = some o → ¬ ω.bar a → H' a = some o) (h2 : ∀ a xs, PTu K H a xs → PTu K H' a xs) : Rep K cl ω H' v d := by
  induction r with
  | non => exact .non
  | bl b => exact .bl b
  | int i => exact .int i
  | str x => exact .str x
  | tup h l e ih => exact .tup (h2 _ _ h) l ih
  | lst h n l e ih => exact .lst (h1 _ _ h n) n l ih
  | dct h n l ek e ih => exact .dct (h1 _ _ h n) n l ek ih
  | ins h n l ek e ih => exact .ins (h1 _ _ h n) n l ek ih
  | obj h => exact .obj h
  | frz h l e ih => exact .frz (h.imp (fun ⟨o, q, n⟩ => ⟨o, h1 _ _ q n, n⟩) id) l ih
theorem RepL.chg {ω : Wd} {H H' : Hp} {vs : List V} {ds : List D} (r : RepL K cl ω H vs ds) (h1 : ∀ a o, H a = some o → ¬ ω.bar a → H' a = some o) (h2 : ∀ a xs, PTu K H a xs → PTu K H' a xs) : RepL K cl ω H' vs ds :=
  ⟨r.1, fun i v d q1 q2 => (r.2 i v d q1 q2).chg h1 h2⟩
theorem RepK.chg {κ : Type} {ω : Wd} {H H' : Hp} {vs : List (κ × V)} {ds : List (κ × D)} (r : RepK K cl ω H vs ds) (h1 : ∀ a o, H a = some o → ¬ ω.bar a → H' a = some o) (h2 : ∀ a xs, PTu K H a xs → PTu K H' a xs) : RepK K cl ω H' vs ds :=
  ⟨r.1, fun i k v q d q1 q2 => ⟨(r.2 i k v q d q1 q2).1, (r.2 i k v q d q1 q2).2.chg h1 h2⟩⟩
theorem Own.chg {ω : Wd} {H H' : Hp} {a : Addr} {d : D} (r : Own K cl ω H a d) (h1 : ∀ a o, H a = some o → ¬ ω.bar a → H' a = some o) (h2 : ∀ a xs, PTu K H a xs → PTu K H' a xs) (e : H' a = H a) : Own K cl ω H' a d := by
  cases d with
  | lst ds => obtain ⟨vs, q, r⟩ := r; exact ⟨vs, e.trans q, r.chg h1 h2⟩
  | dct ds => obtain ⟨vs, q, r⟩ := r; exact ⟨vs, e.trans q, r.chg h1 h2⟩
  | ins c gs => obtain ⟨dx, fs, q, r⟩ := r; exact ⟨dx, fs, e.trans q, r.chg h1 h2⟩
  | _ => exact r.elim
/-- p, which is a list, dict or instance, is changed -/
theorem upd_ptu {H : Hp} {p : Addr} {o : HO} (hp : ∀ xs, ¬ Rd H p (.tup xs)) {a : Addr} {xs : List V} (h : PTu K H a xs) : PTu K (L2.upd H p o) a xs := by
  rcases h with h | h
  · left
    obtain ⟨u, h, hd⟩ := h
    have hn : a ≠ p := fun z => hp xs (.inr ⟨u, z ▸ h⟩)
    exact ⟨u, by rw [upd_ne hn]; exact h, hd⟩
  · exact .inr h
theorem upd_bar {ω : Wd} {H : Hp} {p : Addr} {o : HO} (hb : ω.bar p) : ∀ a u, H a = some u → ¬ ω.bar a → L2.upd H p o a = some u := fun a u h n => by
  rw [upd_ne (fun z => n (by rw [z]; exact hb))]
  exact h
theorem WOk.dom {ω : Wd} {H H' : Hp} (k : WOk ω H) (d : ∀ a, H a ≠ none → H' a ≠ none) : WOk ω H' :=
  ⟨k.nd, fun a h => d a (k.rho a h), fun i a h => ⟨d a (k.ow i a h).1, (k.ow i a h).2⟩, k.inj, fun a h => ⟨d a (k.av a h).1, (k.av a h).2⟩⟩
theorem upd_dom {H : Hp} {p : Addr} {o : HO} : ∀ a, H a ≠ none → L2.upd H p o a ≠ none := fun a h => by
  by_cases e : a = p
  · subst e; rw [upd_same]; simp
  · rw [upd_ne e]; exact h
/-- what is barred by av alone is changed -/
theorem SR.chgAv {ω : Wd} {H : Hp} {σ : L2.St} {δ : En} {S : Sto} {p : Addr} {o : HO} (s : SR K cl own ω σ H δ S) (ha : ω.av p) (hp : ∀ xs, ¬ Rd H p (.tup xs)) : SR K cl own ω σ (L2.upd H p o) δ S := by
  have h1 := upd_bar (H := H) (o := o) (p := p) (ω := ω) (.inr (.inr ha))
  have h2 : ∀ a xs, PTu K H a xs → PTu K (L2.upd H p o) a xs := fun a xs h => upd_ptu hp h
  refine ⟨s.len, s.wok.dom upd_dom, fun i d q1 q2 => ?_, fun i d q1 q2 => ?_, ⟨s.sto.len, fun n a d q1 q2 => ?_⟩⟩
  · obtain ⟨v, z, y⟩ := s.slot i d q1 q2
    exact ⟨v, z, y.chg h1 h2⟩
  · rcases s.osl i d q1 q2 with ⟨a, z, y, x⟩ | ⟨hm, v, z, y⟩
    · exact .inl ⟨a, z, y, x.chg h1 h2 (upd_ne fun e => (s.wok.ow i a y).2.2 (e ▸ ha))⟩
    · exact .inr ⟨hm, v, z, y.chg h1 h2⟩
  · exact (s.sto.obj n a d q1 q2).chg h1 h2 (upd_ne fun e => (s.wok.av p ha).2 (e ▸ List.mem_of_getElem? q1))
abbrev Wd.plus (ω : Wd) (p : Addr) : Wd := { ω with av := fun a => ω.av a ∨ a = p }
theorem GoS.plus {ω : Wd} {H : Hp} {p : Addr} {o : HO} (hp : H p = none) : GoS [] ω H (ω.plus p) (L2.upd H p o) := by
  have g := (Go.upd' (o := o) ω hp).st
  refine ⟨g.pre, g.keep, g.tup, g.new, g.own, fun a h => ?_, g.dom⟩
  rcases h with h | h
  · exact .inl h
  · exact .inr (.inl (h ▸ hp))
theorem WOk.plus {ω : Wd} {H : Hp} {p : Addr} {o : HO} (k : WOk ω H) (hp : H p = none) : WOk (ω.plus p) (L2.upd H p o) := by
  have k' := k.dom (upd_dom (o := o) (p := p))
  refine ⟨k'.nd, k'.rho, fun i a h => ⟨(k'.ow i a h).1, (k'.ow i a h).2.1, fun z => ?_⟩, k'.inj, fun a h => ?_⟩
  · rcases z with z | z
    · exact (k'.ow i a h).2.2 z
    · exact (k.ow i a h).1 (z ▸ hp)
  · rcases h with h | h
    · exact k'.av a h
    · subst h
      exact ⟨by rw [upd_same]; simp, fun z => k.rho _ z hp⟩
theorem SR.plus {ω : Wd} {H : Hp} {σ : L2.St} {δ : En} {S : Sto} {p : Addr} {o : HO} (s : SR K cl own ω σ H δ S) (hp : H p = none) : SR K cl own (ω.plus p) σ (L2.upd H p o) δ S :=
  s.moveS (GoS.plus hp) (fun _ _ z => nomatch z) (fun _ _ => rfl) (s.wok.plus hp) (s.sto.go (GoS.plus hp) rfl fun a h => upd_ne fun z => s.wok.rho a h (z ▸ hp))
/-- a new object is changed -/
theorem GoS.chgNew {ω ω' : Wd} {H H' : Hp} {p : Addr} {o : HO} {M : List Nat} (g : GoS M ω H ω' H') (hp : H p = none) : GoS M ω H ω' (L2.upd H' p o) := by
  refine ⟨g.pre, fun a u h n m => ?_, fun a xs h => ?_, g.new, g.own, g.av, fun a h => upd_dom a (g.dom a h)⟩
  · rw [upd_ne (ne_of_none h hp)]
    exact g.keep a u h n m
  · have hn : a ≠ p := fun z => by
      subst z
      obtain ⟨u, h, _⟩ := h
      rw [hp] at h
      cases h
    obtain ⟨u, h, hd⟩ := g.tup a xs h
    exact ⟨u, by rw [upd_ne hn]; exact h, hd⟩
/-! ### new things: nothing else leads to them -/
structure NewAt (ω : Wd) (H : Hp) (ω' : Wd) (H' : Hp) (as : List Addr) : Prop where
  st : GoS [] ω H ω' H'
  eq : ω'.ow = ω.ow
  av : ∀ b, ω'.av b ↔ ω.av b ∨ b ∈ as
  nd : as.Nodup
  new : ∀ a ∈ as, H a = none
theorem none_of_dom {ω ω' : Wd} {H H' : Hp} {a : Addr} {M : List Nat} (g : GoS M ω H ω' H') (h : H' a = none) : H a = none := by
  cases e : H a with
  | none => rfl
  | some o => exact absurd h (g.dom a (by rw [e]; simp))
theorem NewAt.of {ω ω' : Wd} {H H' : Hp} (g : Go ω H ω' H') : NewAt ω H ω' H' [] := ⟨g.st, g.eq, fun b => by rw [g.ea]; simp, List.nodup_nil, fun a h => nomatch h⟩
theorem NewAt.trans {ω ω1 ω2 : Wd} {H H1 H2 : Hp} {as bs : List Addr} (h : NewAt ω H ω1 H1 as) (k : NewAt ω1 H1 ω2 H2 bs) (w : WOk ω1 H1) : NewAt ω H ω2 H2 (as ++ bs) := by
  refine ⟨h.st.trans k.st, k.eq.trans h.eq, fun b => ?_, List.nodup_append.mpr ⟨h.nd, k.nd, fun a ha b hb e => ?_⟩, fun a ha => ?_⟩
  · rw [k.av, h.av, List.mem_append, or_assoc]
  · subst e
    exact (w.av a ((h.av a).mpr (.inr ha))).1 (k.new a hb)
  · rcases List.mem_append.mp ha with z | z
    · exact h.new a z
    · exact none_of_dom h.st (k.new a z)
/-- given away -/
theorem NewAt.give {ω ω' : Wd} {H H' : Hp} {σ : L2.St} {δ : En} {S : Sto} {a : Addr} {d : D} (n : NewAt ω H ω' H' [a]) (k : WOk ω H) (s : SR K cl own ω' σ H' δ S) (o : Own K cl ω' H' a d) :
    ∃ ω'', Go ω H ω'' H' ∧ SR K cl own ω'' σ H' δ S ∧ Rep K cl ω'' H' (.ref a) d := by
  let ω4 : Wd := { ω' with av := ω.av }
  have hb : ∀ b, ω4.bar b → ω'.bar b := fun b z => by
    rcases z with z | z | z
    · exact .inl z
    · exact .inr (.inl z)
    · exact .inr (.inr ((n.av b).mpr (.inl z)))
  have ha : ω'.av a := (n.av a).mpr (.inr (by simp))
  have hn : ¬ ω4.bar a := fun z => by
    rcases z with z | ⟨i, z⟩ | z
    · exact (s.wok.av a ha).2 z
    · exact (s.wok.ow i a z).2.2 ha
    · exact (k.av a z).1 (n.new a (by simp))
  refine ⟨ω4, ⟨⟨n.st.pre, n.st.keep, n.st.tup, n.st.new, n.st.own, fun b z => .inl z, n.st.dom⟩, n.eq, rfl⟩, ⟨s.len, ⟨s.wok.nd, s.wok.rho, fun i b z => ?_, s.wok.inj, fun b z => s.wok.av b ((n.av b).mpr (.inl z))⟩, fun i d q1 q2 => ?_, fun i d q1 q2 => ?_, ⟨s.sto.len, fun m b d q1 q2 => ?_⟩⟩, o.rep rfl hb hn⟩
  · exact ⟨(s.wok.ow i b z).1, (s.wok.ow i b z).2.1, fun y => (s.wok.ow i b z).2.2 ((n.av b).mpr (.inl y))⟩
  · obtain ⟨v, z, y⟩ := s.slot i d q1 q2
    exact ⟨v, z, y.as rfl hb⟩
  · rcases s.osl i d q1 q2 with ⟨b, z, y, x⟩ | ⟨hm, v, z, y⟩
    · exact .inl ⟨b, z, y, x.as rfl hb⟩
    · exact .inr ⟨hm, v, z, y.as rfl hb⟩
  · exact (s.sto.obj m b d q1 q2).as rfl hb
section
variable (K : PySem.W.Frag) (cl : Nat → Addr) (own : List Nat)
/-- what a new thing is to reach -/
def nG (ω : Wd) (H : Hp) (σ : L2.St) (δ : En) (Q : VK) : Out D → Prop
  | .ok d S' => ∀ ω' a H', NewAt ω H ω' H' [a] → SR K cl own ω' σ H' δ S' → Own K cl ω' H' a d → Q (.ref a) H'
  | _ => False
def tN1 (f : En → M D) : TE := fun σ H Q => ∃ ω δ S, SR K cl own ω σ H δ S ∧ nG K cl own ω H σ δ Q (f δ S)
end
theorem NewAt.before {ω ω1 ω2 : Wd} {H H1 H2 : Hp} {as : List Addr} (g : Go ω H ω1 H1) (w : WOk ω1 H1) (n : NewAt ω1 H1 ω2 H2 as) : NewAt ω H ω2 H2 as := by
  have := (NewAt.of g).trans n w
  rwa [List.nil_append] at this
theorem nG.go {ω ω1 : Wd} {H H1 : Hp} {σ : L2.St} {δ : En} {Q : VK} {x : Out D} (h : nG K cl own ω H σ δ Q x) (g : Go ω H ω1 H1) (w : WOk ω1 H1) : nG K cl own ω1 H1 σ δ Q x := by
  cases x with
  | ok a s => exact fun ω' a H' n s' o => h ω' a H' (n.before g w) s' o
  | exc e s => exact h.elim
  | no => exact h.elim
theorem nG_bind {α γ : Type} {R : Wd → Hp → γ → α → Prop} {ω : Wd} {H : Hp} {σ : L2.St} {δ : En} {S : Sto} {f : M α} {k : α → M D} {Q : VK} {T : γ → Hp → Prop} (h : nG K cl own ω H σ δ Q ((f >>= k) S))
    (hk : ∀ (ω' : Wd) (g : γ) (H' : Hp) (a : α) (S' : Sto), Go ω H ω' H' → SR K cl own ω' σ H' δ S' → R ω' H' g a → nG K cl own ω' H' σ δ Q (k a S') → T g H') : pG K cl own R ω H σ δ T (f S) := by
  rw [M.bind_run] at h
  cases e : f S with
  | ok a s =>
    rw [e] at h
    exact fun ω' g H' go sr r => hk ω' g H' a s go sr r (nG.go h go sr.wok)
  | exc x s => rw [e] at h; exact h.elim
  | no => rw [e] at h; exact h.elim
/-- a new list or dict comes -/
theorem nG.mk {ω : Wd} {H : Hp} {σ : L2.St} {δ : En} {S : Sto} {Q : VK} {d : D} {p : Addr} {o : HO} (h : nG K cl own ω H σ δ Q (.ok d S)) (s : SR K cl own ω σ H δ S) (hp : H p = none) (r : Own K cl (ω.plus p) (L2.upd H p o) p d) : Q (.ref p) (L2.upd H p o) :=
  h (ω.plus p) p _ ⟨GoS.plus hp, rfl, fun b => by simp, by simp, fun a z => by simp at z; rw [z]; exact hp⟩ (s.plus hp) r
theorem RepL.plus {ω : Wd} {H : Hp} {vs : List V} {ds : List D} {p : Addr} {o : HO} (r : RepL K cl ω H vs ds) (hp : H p = none) : RepL K cl (ω.plus p) (L2.upd H p o) vs ds := r.go (GoS.plus hp)
theorem RepK.plus {κ : Type} {ω : Wd} {H : Hp} {vs : List (κ × V)} {ds : List (κ × D)} {p : Addr} {o : HO} (r : RepK K cl ω H vs ds) (hp : H p = none) : RepK K cl (ω.plus p) (L2.upd H p o) vs ds := r.go (GoS.plus hp)
/-- what is new may be given away -/
theorem pe_give {X : Cx} {e : Expr} {f : En → M D} (h : PE X e (tN1 K cl own f)) (b : Bool) : PE X e (tE K cl own b f) := by
  refine h.imp fun σ H Q ⟨ω, δ, S, s, q⟩ => ⟨ω, δ, S, s, ?_⟩
  cases e : f δ S with
  | ok d S' =>
    rw [e] at q
    intro ω' a H' n s' o
    obtain ⟨ω'', g, s'', r⟩ := n.give s.wok s' o
    exact q ω'' (.ref a) H' g s'' (RepF.of r)
  | exc _ _ => rw [e] at q; exact q.elim
  | no => rw [e] at q; exact q.elim
variable {elt tg iter : Expr} {ifs : List Expr} {scope : Scope} {ow : List (Str × Nat)} {itf : En → M (List D)} {t : Tg} {tt : En → M Bool} {te : En → M D} {b : Bool}
def compF (t : Tg) (vs : List Nat) (tt : En → M Bool) (te : En → M D) (δ : En) : D → M (Option D) := fun d => do
  let δ' ← M.ofO (bindT t d (RF.wipe δ vs))
  if ← tt δ' then do pure (some (← te δ')) else pure none
/-- what a comprehension asks -/
theorem lc_ok (hv : ∀ i ∈ Tg.slots t, i ∈ ow.map (·.2)) {σ : L2.St} {H : Hp} {Q : VK} {ω : Wd} {δ : En} {S : Sto} (s : SR K cl own ω σ H δ S)
    (q : nG K cl own ω H σ δ Q ((do
      let items ← itf δ
      let l ← compL (compF t (ow.map (·.2)) tt te δ) items
      if items.length < line then pure (.lst l) else M.no : M D) S)) :
    tLc (tI K cl own [] itf) (tGt K cl own t) (tT K cl own tt) (tE K cl own false te) (ow.map (·.2)) σ H Q := by
  refine ⟨ω, δ, S, s, ?_⟩
  rw [M.bind_run] at q
  cases e : itf δ S with
  | exc _ _ => rw [e] at q; exact q.elim
  | no => rw [e] at q; exact q.elim
  | ok items S1 =>
    rw [e] at q
    dsimp only at q ⊢
    rw [M.bind_run] at q
    cases e2 : compL (compF t (ow.map (·.2)) tt te δ) items S1 with
    | exc _ _ => rw [e2] at q; exact q.elim
    | no => rw [e2] at q; exact q.elim
    | ok full Sn =>
      rw [e2] at q
      by_cases hz : items.length < line
      case neg => simp only [if_neg hz] at q; exact q.elim
      case pos =>
      simp only [if_pos hz] at q
      intro ω1 H1 J g1 s1 ⟨G, Y, wk, hG, hY⟩ Dn hD
      have hnt : ∀ {H : Hp} {acc : List V}, H Dn = some (.lst acc) → ∀ xs, ¬ Rd H Dn (.tup xs) := fun h xs z => by
        rcases z with z | ⟨u, z⟩ <;> (rw [h] at z; cases z)
      refine lc_it wk (fun i H => ∃ ω3 S3 acc ds, GoS [] ω1 H1 ω3 H ∧ ω3.ow = ω1.ow ∧ (∀ a, ω3.av a ↔ ω1.av a ∨ a = Dn) ∧ SR K cl own ω3 σ H δ S3 ∧ H Dn = some (.lst acc) ∧ RepL K cl ω3 H acc ds ∧ acc.length ≤ i ∧
        ∃ l, compL (compF t (ow.map (·.2)) tt te δ) (items.drop i) S3 = .ok l Sn ∧ ds ++ l = full) ?_ ?_ ?_ ?_
      · exact ⟨ω1.plus Dn, S1, [], [], GoS.plus hD, rfl, fun a => Iff.rfl, s1.plus hD, upd_same, RepL.nil, Nat.le_refl _, full, e2, rfl⟩
      · rintro i H _ ⟨ω3, S3, acc, ds, g3, _⟩
        exact hG ω3 H g3
      · rintro i x H2 H3 hi ⟨ω3, S3, acc, ds, g3, eo, ea, s3, h3, r3, hl, l, el, ef⟩ y
        obtain ⟨hh, d, hd, rd⟩ := hY i ω3 H2 x H3 hi g3 s3.wok y
        have edrop : items.drop i = d :: items.drop (i + 1) := by
          rw [List.drop_eq_getElem_cons hi]
          rw [List.getElem?_eq_getElem hi] at hd
          cases hd
          rfl
        -- behind the yield
        have k3 : Go ω3 H2 ω3 H3 ∧ SR K cl own ω3 σ H3 δ S3 := by
          rcases hh with rfl | ⟨T, o, hT, rfl⟩
          · exact ⟨Go.refl _ _, s3⟩
          · exact ⟨Go.upd' _ hT, s3.upd hT⟩
        obtain ⟨gy, sy⟩ := k3
        have rd3 : Rep K cl ω3 H3 x d := rd
        rw [edrop] at el
        unfold compL at el
        rw [M.bind_run] at el
        cases e4 : compF t (ow.map (·.2)) tt te δ d S3 with
        | exc _ _ => rw [e4] at el; cases el
        | no => rw [e4] at el; cases el
        | ok od S4 =>
        rw [e4] at el
        dsimp only at el
        rw [M.bind_run] at el
        unfold compF at e4
        rw [M.bind_run] at e4
        refine ⟨ω3, RF.wipe δ (ow.map (·.2)), S3, d, sy.wipe _, rd3, ?_⟩
        cases eb : bindT t d (RF.wipe δ (ow.map (·.2))) with
        | none => rw [eb] at e4; cases e4
        | some δ' =>
        rw [eb] at e4
        intro σ' s4 hw
        have hw' := hw _ hv
        refine ⟨hw'.trans ?_, ω3, δ', S3, s4, ?_⟩
        · have gen : ∀ (vs : List Nat) (σ : L2.St), L2.wipe (L2.wipe σ vs) vs = L2.wipe σ vs := by
            intro vs σ
            apply List.ext_getElem?
            intro j
            by_cases hj : j ∈ vs
            · have hin : ∀ (vs : List Nat) (σ : L2.St), j ∈ vs → (L2.wipe σ vs)[j]? = if j < σ.length then some none else none := by
                intro vs
                induction vs with
                | nil => intro σ h; nomatch h
                | cons v vs ih =>
                  intro σ h
                  unfold L2.wipe
                  by_cases e : v = j
                  · subst e
                    rw [List.getElem?_set, wipe_length]
                    simp
                  · rw [List.getElem?_set_ne e]
                    exact ih σ (by
                      rcases List.mem_cons.mp h with z | z
                      · exact absurd z.symm e
                      · exact z)
              rw [hin vs _ hj, hin vs _ hj, wipe_length]
            · rw [wipe_out hj]
          exact gen _ _
        have e4' : ((tt δ' >>= fun c => if c = true then te δ' >>= fun v => pure (some v) else pure none) : M (Option D)) S3 = .ok od S4 := e4
        rw [M.bind_run] at e4'
        cases et : tt δ' S3 with
        | exc _ _ => rw [et] at e4'; cases e4'
        | no => rw [et] at e4'; cases e4'
        | ok c S5 =>
        rw [et] at e4'
        dsimp only at e4'
        intro ω5 c' H5 g5 s5 rc
        subst rc
        cases c' with
        | false =>
          simp only [Bool.false_eq_true, if_false] at e4' ⊢
          cases e4'
          cases e6 : compL (compF t (ow.map (·.2)) tt te δ) (items.drop (i + 1)) S4 with
          | exc _ _ => rw [e6] at el; cases el
          | no => rw [e6] at el; cases el
          | ok l2 S6 =>
          rw [e6] at el
          cases el
          have gg : Go ω3 H2 ω5 H5 := gy.trans g5
          have hD5 : H5 Dn = some (.lst acc) := gg.st.keep Dn _ h3 (s3.wok.av Dn ((ea Dn).mpr (.inr rfl))).2 fun _ z => nomatch z
          exact ⟨ω5, S4, acc, ds, g3.trans gg.st, gg.eq.trans eo, fun a => by rw [gg.ea]; exact ea a, s3.move gg s5.wok s5.sto, hD5, r3.go gg.st, Nat.le_succ_of_le hl, _, e6, ef⟩
        | true =>
          simp only [if_true] at e4' ⊢
          rw [M.bind_run] at e4'
          refine ⟨ω5, δ', S5, s5, ?_⟩
          cases ee : te δ' S5 with
          | exc _ _ => rw [ee] at e4'; cases e4'
          | no => rw [ee] at e4'; cases e4'
          | ok w S7 =>
          rw [ee] at e4'
          cases e4'
          intro ω7 y7 H7 g7 s7 r7
          cases e6 : compL (compF t (ow.map (·.2)) tt te δ) (items.drop (i + 1)) S4 with
          | exc _ _ => rw [e6] at el; cases el
          | no => rw [e6] at el; cases el
          | ok l2 S6 =>
          rw [e6] at el
          cases el
          have gg : Go ω3 H2 ω7 H7 := (gy.trans g5).trans g7
          have hD7 : H7 Dn = some (.lst acc) := gg.st.keep Dn _ h3 (s3.wok.av Dn ((ea Dn).mpr (.inr rfl))).2 fun _ z => nomatch z
          have ha7 : ω7.av Dn := by rw [gg.ea]; exact (ea Dn).mpr (.inr rfl)
          have s8 := s3.move gg s7.wok s7.sto
          refine ⟨acc, hD7, ?_, ω7, S4, acc ++ [y7], ds ++ [w], (g3.trans gg.st).chgNew hD, gg.eq.trans eo, fun a => by rw [gg.ea]; exact ea a, s8.chgAv ha7 (hnt hD7), upd_same, ?_, by simp; omega, l2, e6, by simpa using ef⟩
          · rw [← line_eq]; omega
          · exact RepL.chg ((r3.go gg.st).append (RepL.cons r7 RepL.nil)) (upd_bar (.inr (.inr ha7))) fun a xs h => upd_ptu (hnt hD7) h
      · rintro H2 ⟨ω3, S3, acc, ds, g3, eo, ea, s3, h3, r3, hl, l, el, ef⟩
        rw [List.drop_length] at el
        cases el
        rw [List.append_nil] at ef
        subst ef
        refine q ω3 Dn H2 (NewAt.before g1 s1.wok ⟨g3, eo, fun a => by rw [ea]; simp, by simp, fun a z => by simp at z; rw [z]; exact hD⟩) s3 ⟨acc, h3, r3⟩
theorem rn_lc (hc : X.calm = true) (hN : X.N.Nodup) (hi : PI X tg iter (tI X.K cl own [] itf)) (ok : BlkOk X.N X.env.scope scope ow)
    (hg : ∀ (s : Shared) (H : Hp) (C : Addr) (cll : List (Str × Addr)) (fp : List Addr), PG (X.blk s H scope (compEnvC scope cll C X.env) fp) tg (tGt X.K cl own t))
    (ht : ∀ (s : Shared) (H : Hp) (C : Addr) (cll : List (Str × Addr)) (fp : List Addr), PTs (X.blk s H scope (compEnvC scope cll C X.env) fp) ifs (tT X.K cl own tt))
    (he : ∀ (s : Shared) (H : Hp) (C : Addr) (cll : List (Str × Addr)) (fp : List Addr), PE (X.blk s H scope (compEnvC scope cll C X.env) fp) elt (tE X.K cl own false te))
    (hs : okShape iter = true) (hv : ∀ i ∈ Tg.slots t, i ∈ ow.map (·.2)) :
    PE X (.ListComp elt [⟨tg, iter, ifs, 0⟩] scope pos) (tN1 X.K cl own fun δ => do
      let items ← itf δ
      let l ← compL (compF t (ow.map (·.2)) tt te δ) items
      if items.length < line then pure (.lst l) else M.no) :=
  (pe_lc hc hN hi ok hg ht he (shape_fold hs _)).imp fun σ H Q ⟨ω, δ, S, s, q⟩ => lc_ok hv s q
end
end RF
end
section
set_option linter.all false
set_option maxRecDepth 100000
set_option maxHeartbeats 4000000
set_option autoImplicit false
/-! RfSnd11: expressions that give something new; statements. -/
namespace RF
open PySem PySem.Spec L2
open PyProof.Rows hiding St

section
variable {K : PySem.W.Frag} {cl : Nat → Addr} {own : List Nat} {X : Cx} {a c e : Expr} {es : List Expr} {p pos p2 : Pos} {f g : En → M D} {gs : En → M (List D)} {t : En → M Bool} {b : Bool}
theorem rn_lst (ha : PA X es (tA K cl own false gs)) : PE X (.List es pos) (tN1 K cl own fun δ => do
    let ds ← gs δ
    if ds.length ≤ 1000 then pure (.lst ds) else M.no) := by
  refine (pe_lst ha).imp fun σ H Q ⟨ω, δ, S, s, q⟩ => ⟨ω, δ, S, s, nG_bind q fun ω1 vs H1 ds S1 g1 s1 r1 q1 => ?_⟩
  by_cases hz : ds.length ≤ 1000
  · rw [if_pos hz] at q1
    exact ⟨l1000 (by rw [r1.len]; exact hz), fun p hp => nG.mk q1 s1 hp ⟨vs, upd_same, r1.l.plus hp⟩⟩
  · rw [if_neg hz] at q1
    exact q1.elim
theorem rn_dnew : PE X (.Dict [] [] pos) (tN1 K cl own fun _ => pure (.dct [])) :=
  pe_dnewK.imp fun σ H Q ⟨ω, δ, S, s, q⟩ p hp => nG.mk q s hp ⟨[], upd_same, RepK.nil⟩
theorem rn_ite (hc : PT X c (tT K cl own t)) (ha : PE X a (tN1 K cl own f)) (he : PE X e (tN1 K cl own g)) : PE X (.IfExp c a e pos) (tN1 K cl own fun δ => do if ← t δ then f δ else g δ) := by
  refine (pe_ifExp hc ha he).imp fun σ H Q ⟨ω, δ, S, s, q⟩ => ?_
  refine ⟨ω, δ, S, s, nG_bind q fun ω1 v H1 x S1 g1 s1 r1 q1 => ?_⟩
  subst r1
  cases v with
  | true => exact ⟨ω1, δ, S1, s1, q1⟩
  | false => exact ⟨ω1, δ, S1, s1, q1⟩
/-- x + y of lists -/
theorem rn_add (ha : PE X a (tE X.K cl own true f)) (hc : PE X c (tE X.K cl own true g)) : PE X (.BinOp a .Add c pos) (tN1 X.K cl own fun δ => do
    let x ← f δ
    let y ← g δ
    addNF x y) := by
  refine (pe_op op_cat ha hc).imp fun σ H Q ⟨ω, δ, S, s, q⟩ => ?_
  refine ⟨ω, δ, S, s, nG_bind q fun ω1 v H1 x S1 g1 s1 r1 q1 => ?_⟩
  refine ⟨ω1, δ, S1, s1, nG_bind q1 fun ω2 u H2 y S2 g2 s2 r2 q2 => ?_⟩
  have r1' : RepB X.K cl ω2 H2 v x := RepB.go r1 g2 s1.wok
  cases x with
  | lst x =>
    cases y with
    | lst y =>
      obtain ⟨l, xs, rfl, hl, rl⟩ := r1'.lstH
      obtain ⟨m, ys, rfl, hm, rm⟩ := RepB.lstH r2
      simp only [addNF] at q2
      by_cases hz : x.length + y.length ≤ line
      · simp only [if_pos hz] at q2
        exact ⟨l, m, xs, ys, rfl, rfl, hl, hm, by rw [rl.1, rm.1, ← line_eq]; exact hz, fun p hp => nG.mk q2 s2 hp ⟨_, upd_same, (rl.append rm).plus hp⟩⟩
      · simp only [if_neg hz] at q2
        exact q2.elim
    | _ => exact q2.elim
  | _ => exact q2.elim
/-- [..] * n -/
theorem rn_mul (ha : PE X a (tE X.K cl own true f)) (hc : PE X c (tE X.K cl own true g)) : PE X (.BinOp a .Mult c pos) (tN1 X.K cl own fun δ => do
    let x ← f δ
    let y ← g δ
    mulNF x y) := by
  refine (pe_op op_rep ha hc).imp fun σ H Q ⟨ω, δ, S, s, q⟩ => ?_
  refine ⟨ω, δ, S, s, nG_bind q fun ω1 v H1 x S1 g1 s1 r1 q1 => ?_⟩
  refine ⟨ω1, δ, S1, s1, nG_bind q1 fun ω2 u H2 y S2 g2 s2 r2 q2 => ?_⟩
  have r1' : RepB X.K cl ω2 H2 v x := RepB.go r1 g2 s1.wok
  cases x with
  | lst x =>
    cases y with
    | int k =>
      obtain ⟨l, xs, rfl, hl, rl⟩ := r1'.lstH
      simp only [mulNF] at q2
      by_cases hz : x.length * k.toNat ≤ 1000000 ∧ k < 1000000 ∧ -1000000 < k
      · simp only [if_pos hz] at q2
        have hrep : ∀ n : Nat, RepL X.K cl ω2 H2 (List.replicate n xs).flatten (List.replicate n x).flatten := fun n => by
          induction n with
          | zero => exact RepL.nil
          | succ n ih =>
            rw [List.replicate_succ, List.replicate_succ, List.flatten_cons, List.flatten_cons]
            exact rl.append ih
        have hl2 : xs.length * k.toNat ≤ sizeLine := by
          rw [rl.1, ← line_eq]
          exact Nat.le_trans hz.1 (by decide)
        exact ⟨l, k, xs, rfl, RepB.int r2, hl, by omega, by omega, hl2, fun p hp => nG.mk q2 s2 hp ⟨_, upd_same, (hrep _).plus hp⟩⟩
      · simp only [if_neg hz] at q2
        exact q2.elim
    | _ => exact q2.elim
  | _ => exact q2.elim
/-- builtins that answer with something new -/
def newBi : Bi → Bool
  | .list | .dict | .sorted => true
  | _ => false
theorem bi_new {ω : Wd} {H : Hp} {σ : L2.St} {δ : En} {S : Sto} {Q : VK} {B : Bi} {ds : List D} {vs : List V} (s : SR K cl own ω σ H δ S) (r : RepFL K cl true ω H vs ds) (q : nG K cl own ω H σ δ Q (biD B ds S)) (hB : newBi B = true) : rBi K B vs H Q := by
  cases B with
  | sorted =>
    match ds, r, q with
    | [d], r, q =>
      obtain ⟨v, rfl, rv⟩ := one_of r
      cases d with
      | lst l =>
        obtain ⟨a, vs, rfl, ha, ra⟩ := rv.seqL
        simp only [biD] at q
        cases e : strsOf l with
        | none => rw [e] at q; exact q.elim
        | some xs =>
          rw [e] at q
          by_cases hz : xs.length < 64
          · simp only [if_pos hz] at q
            obtain rfl := rep_strs ra e
            refine ⟨a, xs, rfl, ha, hz, fun ys p hp hs hn => ?_⟩
            obtain rfl := sortedS_eq hp hs
            exact nG.mk q s hn ⟨_, upd_same, (repL_strs _).plus hn⟩
          · simp only [if_neg hz] at q
            exact q.elim
      | _ => exact q.elim
    | [], _, q => exact q.elim
    | d :: e :: l, _, q => cases d <;> first | exact q.elim | (cases e <;> exact q.elim)
  | list =>
    match ds, r, q with
    | [d], r, q =>
      obtain ⟨v, rfl, rv⟩ := one_of r
      cases d with
      | tup l =>
        obtain ⟨a, vs, rfl, ha, ra⟩ := rv.tup.seqT
        exact ⟨a, vs, rfl, .inr ha, fun p hp => nG.mk q s hp ⟨_, upd_same, ra.plus hp⟩⟩
      | lst l =>
        obtain ⟨a, vs, rfl, ha, ra⟩ := rv.seqL
        exact ⟨a, vs, rfl, .inl ha, fun p hp => nG.mk q s hp ⟨_, upd_same, ra.plus hp⟩⟩
      | _ => exact q.elim
    | [], _, q => exact q.elim
    | d :: e :: l, _, q => cases d <;> first | exact q.elim | (cases e <;> exact q.elim)
  | dict =>
    match ds, r, q with
    | [d], r, q =>
      obtain ⟨v, rfl, rv⟩ := one_of r
      cases d with
      | dct l =>
        obtain ⟨a, vs, rfl, ha, ra⟩ := rv.dctH
        exact .inl ⟨a, vs, rfl, ha, fun p hp => nG.mk q s hp ⟨_, upd_same, ra.plus hp⟩⟩
      | lst l =>
        obtain ⟨a, vs, rfl, ha, ra⟩ := rv.seqL
        simp only [biD] at q
        cases e : pairsOf l with
        | none => rw [e] at q; exact q.elim
        | some m =>
          rw [e] at q
          by_cases hz : m.length ≤ line
          · simp only [if_pos hz] at q
            obtain ⟨ps, kvs, rfl, h2, h3⟩ := rep_pairs ra e
            exact .inr (.inl ⟨a, ps, kvs, rfl, ha, h2, fun p hp => nG.mk q s hp ⟨_, upd_same, (rep_merge h3 RepK.nil).plus hp⟩⟩)
          · simp only [if_neg hz] at q
            exact q.elim
      | tup l =>
        obtain ⟨a, vs, rfl, ha, ra⟩ := rv.tup.ptu
        simp only [biD] at q
        cases e : pairsOf l with
        | none => rw [e] at q; exact q.elim
        | some m =>
          rw [e] at q
          by_cases hz : m.length ≤ line
          · simp only [if_pos hz] at q
            obtain ⟨ps, kvs, rfl, h2, h3⟩ := rep_pairs ra e
            exact .inr (.inr ⟨a, ps, kvs, rfl, ha, h2, fun p hp => nG.mk q s hp ⟨_, upd_same, (rep_merge h3 RepK.nil).plus hp⟩⟩)
          · simp only [if_neg hz] at q
            exact q.elim
      | _ => exact q.elim
    | [], _, q => exact q.elim
    | d :: e :: l, _, q => cases d <;> first | exact q.elim | (cases e <;> exact q.elim)
  | _ => cases hB
theorem rn_bi {x : Str} {B : Bi} {k : Nat} (hr : Room k X.A) (hcalm : X.calm = true) (gd : X.A.guards = some []) (hx : x = biNm B) (hg : Gl X x) (hm : X.mg x = none) (ha : PA X (e :: es) (tA X.K cl own true gs)) (hs : okShape e = true) (hs2 : es.all okShape = true) (hB : newBi B = true) : PE X (.Call (.Name x p) (e :: es) [] pos) (tN1 X.K cl own fun δ => do biD B (← gs δ)) := by
  refine (pe_bi B hx (op_bi hcalm (hu_cmp hr) gd B) hg hm ha hs hs2).imp fun σ H Q ⟨ω, δ, S, s, q⟩ => ⟨ω, δ, S, s, ?_⟩
  dsimp only at q
  rw [M.bind_run] at q
  cases e : gs δ S with
  | exc _ _ => rw [e] at q; exact q.elim
  | no => rw [e] at q; exact q.elim
  | ok ds S1 =>
    rw [e] at q
    intro ω1 vs H1 g1 s1 r1
    exact bi_new s1 r1 (nG.go q g1 s1.wok) hB
/-- a slice of a list -/
theorem rn_cut {lo hi : Option Expr} {tl th : En → M (Option Int)} (he : PE X e (tE X.K cl own true f)) (hl : PO X lo (tO X.K cl own tl)) (hh : PO X hi (tO X.K cl own th)) : PE X (.Subscript e (.Slice lo hi none p2) pos) (tN1 X.K cl own fun δ => do
    let x ← f δ
    let l ← tl δ
    let h ← th δ
    cutNF x l h) := by
  refine (pe_slice sl_list he hl hh).imp fun σ H Q ⟨ω, δ, S, s, q⟩ => ⟨ω, δ, S, s, nG_bind q fun ω1 v H1 x S1 g1 s1 r1 q1 => ?_⟩
  refine ⟨ω1, δ, S1, s1, nG_bind q1 fun ω2 l H2 l' S2 g2 s2 r2 q2 => ?_⟩
  refine ⟨ω2, δ, S2, s2, nG_bind q2 fun ω3 h H3 h' S3 g3 s3 r3 q3 => ?_⟩
  subst r2
  subst r3
  have r : RepB X.K cl ω3 H3 v x := RepB.go (RepB.go r1 g2 s1.wok) g3 s2.wok
  cases x with
  | lst ds =>
    obtain ⟨q, vs, rfl, hq, rq⟩ := r.seqL
    exact ⟨q, vs, rfl, hq, fun p hp => nG.mk q3 s3 hp ⟨_, upd_same, (cut_rep rq _ _).plus hp⟩⟩
  | frz ds =>
    obtain ⟨q, vs, rfl, hq, rq⟩ := r.seqF
    exact ⟨q, vs, rfl, hq, fun p hp => nG.mk q3 s3 hp ⟨_, upd_same, (cut_rep rq _ _).plus hp⟩⟩
  | _ => exact q3.elim
/-- another function that says as much or less -/
theorem pn_imp {e : Expr} {f g : En → M D} (h : PE X e (tN1 K cl own f)) (k : ∀ δ S d S', g δ S = .ok d S' → f δ S = .ok d S') : PE X e (tN1 K cl own g) := by
  refine h.imp fun σ H Q ⟨ω, δ, S, s, q⟩ => ⟨ω, δ, S, s, ?_⟩
  cases e : g δ S with
  | ok d S' => rw [e] at q; rw [k δ S d S' e]; exact q
  | exc _ _ => rw [e] at q; exact q.elim
  | no => rw [e] at q; exact q.elim
theorem pr_imp {e : Expr} {f g : En → M D} (h : PE X e (tE K cl own b f)) (k : ∀ δ S d S', g δ S = .ok d S' → f δ S = .ok d S') : PE X e (tE K cl own b g) := by
  refine h.imp fun σ H Q ⟨ω, δ, S, s, q⟩ => ⟨ω, δ, S, s, ?_⟩
  cases e : g δ S with
  | ok d S' => rw [e] at q; rw [k δ S d S' e]; exact q
  | exc _ _ => rw [e] at q; exact q.elim
  | no => rw [e] at q; exact q.elim
end

/-! ### several values, some of them new -/
section
variable (K : PySem.W.Frag) (cl : Nat → Addr) (own : List Nat)
inductive NewL (ω : Wd) (H : Hp) : List Bool → List V → List D → List Addr → Prop
  | nil : NewL ω H [] [] [] []
  | giv {ks : List Bool} {v : V} {vs : List V} {d : D} {ds : List D} {as : List Addr} (r : Rep K cl ω H v d) (t : NewL ω H ks vs ds as) : NewL ω H (false :: ks) (v :: vs) (d :: ds) as
  | own {ks : List Bool} {a : Addr} {vs : List V} {d : D} {ds : List D} {as : List Addr} (o : Own K cl ω H a d) (t : NewL ω H ks vs ds as) : NewL ω H (true :: ks) (.ref a :: vs) (d :: ds) (a :: as)
def tN (ks : List Bool) (f : En → M (List D)) : TA := fun σ H Q => ∃ ω δ S, SR K cl own ω σ H δ S ∧ (match f δ S with
  | .ok ds S' => ∀ ω' vs as H', NewAt ω H ω' H' as → SR K cl own ω' σ H' δ S' → NewL K cl ω' H' ks vs ds as → Q vs H'
  | _ => False)
end
section
variable {K : PySem.W.Frag} {cl : Nat → Addr} {own : List Nat} {X : Cx} {a c e : Expr} {es : List Expr} {p pos p2 : Pos} {f g : En → M D} {gs : En → M (List D)} {ks : List Bool}
theorem na_nil : PA X [] (tN K cl own [] fun _ => pure []) := pa_nil.imp fun σ H Q ⟨ω, δ, S, s, q⟩ => q ω [] [] H (NewAt.of (Go.refl _ _)) s .nil
theorem na_giv (he : PE X e (tE K cl own false f)) (hr : PA X es (tN K cl own ks gs)) (hs : okShape e = true) : PA X (e :: es) (tN K cl own (false :: ks) fun δ => do
    let x ← f δ
    let l ← gs δ
    pure (x :: l)) := by
  refine (pa_cons he hr (shape_star hs)).imp fun σ H Q ⟨ω, δ, S, s, q⟩ => ⟨ω, δ, S, s, ?_⟩
  dsimp only at q
  rw [M.bind_run] at q
  cases e1 : f δ S with
  | exc _ _ => rw [e1] at q; exact q.elim
  | no => rw [e1] at q; exact q.elim
  | ok d S1 =>
    rw [e1] at q
    dsimp only at q
    rw [M.bind_run] at q
    intro ω1 v H1 g1 s1 r1
    refine ⟨ω1, δ, S1, s1, ?_⟩
    cases e2 : gs δ S1 with
    | exc _ _ => rw [e2] at q; exact q.elim
    | no => rw [e2] at q; exact q.elim
    | ok ds S2 =>
      rw [e2] at q
      intro ω2 vs as H2 n2 s2 r2
      exact q ω2 (v :: vs) as H2 (n2.before g1 s1.wok) s2 (.giv (Rep.go r1 n2.st) r2)
theorem na_own (he : PE X e (tN1 K cl own f)) (hr : PA X es (tN K cl own ks gs)) (hs : okShape e = true) : PA X (e :: es) (tN K cl own (true :: ks) fun δ => do
    let x ← f δ
    let l ← gs δ
    pure (x :: l)) := by
  refine (pa_cons he hr (shape_star hs)).imp fun σ H Q ⟨ω, δ, S, s, q⟩ => ⟨ω, δ, S, s, ?_⟩
  dsimp only at q
  rw [M.bind_run] at q
  cases e1 : f δ S with
  | exc _ _ => rw [e1] at q; exact q.elim
  | no => rw [e1] at q; exact q.elim
  | ok d S1 =>
    rw [e1] at q
    dsimp only at q
    rw [M.bind_run] at q
    intro ω1 a H1 n1 s1 o1
    refine ⟨ω1, δ, S1, s1, ?_⟩
    cases e2 : gs δ S1 with
    | exc _ _ => rw [e2] at q; exact q.elim
    | no => rw [e2] at q; exact q.elim
    | ok ds S2 =>
      rw [e2] at q
      intro ω2 vs as H2 n2 s2 r2
      refine q ω2 (.ref a :: vs) (a :: as) H2 (n1.trans n2 s1.wok) s2 (.own (o1.go n2.st ?_) r2)
      have ha := s1.wok.av a ((n1.av a).mpr (.inr (by simp)))
      cases h : H1 a with
      | none => exact absurd h ha.1
      | some o => exact n2.st.keep a o h ha.2 fun _ z => nomatch z
end

/-! ### statements -/
section
variable (K : PySem.W.Frag) (cl : Nat → Addr) (own : List Nat)
/-- how a run of a statement is to end -/
def sG (nw : Bool) (Mu : List Nat) (ω : Wd) (H : Hp) (Dn : Ends) : Out Fl → Prop
  | .ok (.nx δ') S' => ∀ ω' σ' H', GoS Mu ω H ω' H' → ω'.av = ω.av → SR K cl own ω' σ' H' δ' S' → Dn.nx σ' H'
  | .ok (.bk δ') S' => ∀ ω' σ' H', GoS Mu ω H ω' H' → ω'.av = ω.av → SR K cl own ω' σ' H' δ' S' → Dn.bk σ' H'
  | .ok (.rt d) S' => (match nw with
    | false => ∀ ω' v H', GoS Mu ω H ω' H' → ω'.av = ω.av → ω'.ow = (fun _ => none) → WOk ω' H' → StoOk K cl ω' H' S' → Rep K cl ω' H' v d → Dn.rt v H'
    | true => ∀ ω' a H', GoS Mu ω H ω' H' → (H a = none ∨ ∃ i, ω.ow i = some a) → (∀ b, ω'.av b ↔ ω.av b ∨ b = a) → ω'.ow = (fun _ => none) → WOk ω' H' → StoOk K cl ω' H' S' → Own K cl ω' H' a d → Dn.rt (.ref a) H')
  | _ => False
def tS (nw : Bool) (Mu : List Nat) (f : En → M Fl) : TS := fun Dn σ H => ∃ ω δ S, SR K cl own ω σ H δ S ∧ sG K cl own nw Mu ω H Dn (f δ S)
end
section
variable {K : PySem.W.Frag} {cl : Nat → Addr} {own : List Nat} {nw : Bool} {Mu : List Nat} {ω ω' ω1 : Wd} {H H' H1 : Hp} {σ σ' : L2.St} {δ δ' : En} {S S' : Sto} {v : V} {d : D} {Dn : Ends}
theorem sG.go {x : Out Fl} (h : sG K cl own nw Mu ω H Dn x) (g : GoS Mu ω H ω1 H1) (ea : ω1.av = ω.av) : sG K cl own nw Mu ω1 H1 Dn x := by
  cases x with
  | ok a s =>
    cases a with
    | nx δ' => exact fun ω' σ' H' g' e' => h ω' σ' H' (g.trans g') (e'.trans ea)
    | bk δ' => exact fun ω' σ' H' g' e' => h ω' σ' H' (g.trans g') (e'.trans ea)
    | rt d => cases nw with
      | false => exact fun ω' v H' g' e' => h ω' v H' (g.trans g') (e'.trans ea)
      | true => exact fun ω' a H' g' n' e' => h ω' a H' (g.trans g') (n'.elim (fun z => .inl (none_of_dom g z)) fun ⟨i, z⟩ => (g.own i a z).elim (fun y => .inr ⟨i, y⟩) .inl) fun b => by rw [e', ea]
  | exc e s => exact h.elim
  | no => exact h.elim
theorem sG.mono {Mv : List Nat} {x : Out Fl} (h : sG K cl own nw Mv ω H Dn x) (m : ∀ i ∈ Mu, i ∈ Mv) : sG K cl own nw Mu ω H Dn x := by
  cases x with
  | ok a s =>
    cases a with
    | nx δ' => exact fun ω' σ' H' g' => h ω' σ' H' (g'.mono m)
    | bk δ' => exact fun ω' σ' H' g' => h ω' σ' H' (g'.mono m)
    | rt d => cases nw with
      | false => exact fun ω' v H' g' => h ω' v H' (g'.mono m)
      | true => exact fun ω' a H' g' => h ω' a H' (g'.mono m)
  | exc e s => exact h.elim
  | no => exact h.elim
theorem sG_bind {α γ : Type} {R : Wd → Hp → γ → α → Prop} {f : M α} {k : α → M Fl} {T : γ → Hp → Prop} (h : sG K cl own nw Mu ω H Dn ((f >>= k) S))
    (hk : ∀ (ω' : Wd) (g : γ) (H' : Hp) (a : α) (S' : Sto), Go ω H ω' H' → SR K cl own ω' σ H' δ S' → R ω' H' g a → sG K cl own nw Mu ω' H' Dn (k a S') → T g H') : pG K cl own R ω H σ δ T (f S) := by
  rw [M.bind_run] at h
  cases e : f S with
  | ok a s =>
    rw [e] at h
    exact fun ω' g H' go sr r => hk ω' g H' a s go sr r (sG.go h (go.s Mu) go.ea)
  | exc x s => rw [e] at h; exact h.elim
  | no => rw [e] at h; exact h.elim
/-- nothing more happens here -/
theorem sG.nx (h : sG K cl own nw Mu ω H Dn (.ok (.nx δ) S)) (s : SR K cl own ω σ H δ S) : Dn.nx σ H := h ω σ H (GoS.refl _ _ _) rfl s
theorem PS.mono {X : Cx} {st : Stmt} {Mv : List Nat} {f : En → M Fl} (h : PS X st (tS K cl own nw Mu f)) (m : ∀ i ∈ Mu, i ∈ Mv) : PS X st (tS K cl own nw Mv f) :=
  h.imp fun D σ H ⟨ω, δ, S, s, q⟩ => ⟨ω, δ, S, s, q.mono m⟩
end
end RF
end
section
set_option linter.all false
set_option maxRecDepth 100000
set_option maxHeartbeats 4000000
set_option autoImplicit false
/-! RfSnd12: statements, their rules. -/
namespace RF
open PySem PySem.Spec L2
open PyProof.Rows hiding St

/-! ### worlds: an own slot takes a new thing, the store takes one -/
section
variable {K : PySem.W.Frag} {cl : Nat → Addr} {own : List Nat} {nw : Bool} {Mu : List Nat} {ω ω' ω1 : Wd} {H H' H1 : Hp} {σ σ' : L2.St} {δ δ' : En} {S S' : Sto} {v : V} {d : D} {Dn : Ends} {a : Addr} {i : Nat}
abbrev Wd.take (ω : Wd) (i : Nat) (a : Addr) : Wd := { rho := ω.rho, ow := fun j => if j = i then some a else ω.ow j, av := fun b => ω.av b ∧ b ≠ a }
abbrev Wd.sto (ω : Wd) (a : Addr) : Wd := { rho := ω.rho ++ [a], ow := ω.ow, av := fun b => ω.av b ∧ b ≠ a }
theorem Wd.take_bar (ha : ω.av a) {b : Addr} (z : (ω.take i a).bar b) : ω.bar b := by
  rcases z with z | ⟨j, z⟩ | z
  · exact .inl z
  · have z' : (if j = i then some a else ω.ow j) = some b := z
    by_cases e : j = i
    · rw [if_pos e] at z'
      cases z'
      exact .inr (.inr ha)
    · rw [if_neg e] at z'
      exact .inr (.inl ⟨j, z'⟩)
  · exact .inr (.inr z.1)
theorem Wd.sto_bar (ha : ω.av a) {b : Addr} (z : (ω.sto a).bar b) : ω.bar b := by
  rcases z with z | z | z
  · rcases List.mem_append.mp z with z | z
    · exact .inl z
    · have : b = a := by simpa using z
      exact .inr (.inr (this ▸ ha))
  · exact .inr (.inl z)
  · exact .inr (.inr z.1)
theorem WOk.take (k : WOk ω H) (ha : ω.av a) (i : Nat) : WOk (ω.take i a) H := by
  have hA := k.av a ha
  refine ⟨k.nd, k.rho, fun j b z => ?_, fun j l b z y => ?_, fun b z => k.av b z.1⟩
  · have z' : (if j = i then some a else ω.ow j) = some b := z
    by_cases e : j = i
    · rw [if_pos e] at z'
      cases z'
      exact ⟨hA.1, hA.2, fun y => y.2 rfl⟩
    · rw [if_neg e] at z'
      have := k.ow j b z'
      exact ⟨this.1, this.2.1, fun y => this.2.2 y.1⟩
  · have z' : (if j = i then some a else ω.ow j) = some b := z
    have y' : (if l = i then some a else ω.ow l) = some b := y
    by_cases e : j = i
    · by_cases e' : l = i
      · rw [e, e']
      · rw [if_pos e] at z'; cases z'
        rw [if_neg e'] at y'
        exact absurd ha (k.ow l a y').2.2
    · by_cases e' : l = i
      · rw [if_pos e'] at y'; cases y'
        rw [if_neg e] at z'
        exact absurd ha (k.ow j a z').2.2
      · rw [if_neg e] at z'; rw [if_neg e'] at y'
        exact k.inj j l b z' y'
theorem SR.setOwn (s : SR K cl own ω σ H δ S) (ha : ω.av a) (o : Own K cl ω H a d) (hi : i ∈ own) (hl : i < δ.length) : SR K cl own (ω.take i a) (σ.set i (some (.ref a))) H (δ.set i (some d)) S := by
  have hl2 : i < σ.length := by rw [s.len]; exact hl
  have hb : ∀ b, (ω.take i a).bar b → ω.bar b := fun b z => Wd.take_bar ha z
  refine ⟨by simp [s.len], s.wok.take ha i, fun j e h1 h2 => ?_, fun j e h1 h2 => ?_, ⟨s.sto.len, fun n b e h1 h2 => (s.sto.obj n b e h1 h2).as rfl hb⟩⟩
  · have z : i ≠ j := fun y => h2 (y ▸ hi)
    rw [List.getElem?_set_ne z] at h1
    rw [List.getElem?_set_ne z]
    obtain ⟨v, q, r⟩ := s.slot j e h1 h2
    exact ⟨v, q, r.as rfl hb⟩
  · by_cases z : i = j
    · subst z
      rw [List.getElem?_set_self hl] at h1
      cases h1
      exact .inl ⟨a, by rw [List.getElem?_set_self hl2], by simp, o.as rfl hb⟩
    · rw [List.getElem?_set_ne z] at h1
      rw [List.getElem?_set_ne z]
      rcases s.osl j e h1 h2 with ⟨b, q, y, x⟩ | ⟨hm, v, q, r⟩
      · exact .inl ⟨b, q, by simp [Ne.symm z, y], x.as rfl hb⟩
      · exact .inr ⟨hm, v, q, r.as rfl hb⟩
theorem SR.setImm (s : SR K cl own ω σ H δ S) (r : Rep K cl ω H v d) (hm : d.imm = true) (hi : i ∈ own) (hl : i < δ.length) : SR K cl own ω (σ.set i (some v)) H (δ.set i (some d)) S := by
  have hl2 : i < σ.length := by rw [s.len]; exact hl
  refine ⟨by simp [s.len], s.wok, fun j e h1 h2 => ?_, fun j e h1 h2 => ?_, s.sto⟩
  · have z : i ≠ j := fun y => h2 (y ▸ hi)
    rw [List.getElem?_set_ne z] at h1
    rw [List.getElem?_set_ne z]
    exact s.slot j e h1 h2
  · by_cases z : i = j
    · subst z
      rw [List.getElem?_set_self hl] at h1
      cases h1
      exact .inr ⟨hm, v, by rw [List.getElem?_set_self hl2], r⟩
    · rw [List.getElem?_set_ne z] at h1
      rw [List.getElem?_set_ne z]
      exact s.osl j e h1 h2
theorem Rep.as' (r : Rep K cl ω H v d) (e1 : ∀ (n : Nat) (a : Addr), ω.rho[n]? = some a → ω'.rho[n]? = some a) (e2 : ∀ a, ω'.bar a → ω.bar a) : Rep K cl ω' H v d := by
  induction r with
  | non => exact .non
  | bl b => exact .bl b
  | int i => exact .int i
  | str x => exact .str x
  | tup h l e ih => exact .tup h l ih
  | lst h n l e ih => exact .lst h (fun z => n (e2 _ z)) l ih
  | dct h n l ek e ih => exact .dct h (fun z => n (e2 _ z)) l ek ih
  | ins h n l ek e ih => exact .ins h (fun z => n (e2 _ z)) l ek ih
  | obj h => exact .obj (e1 _ _ h)
  | frz h l e ih => exact .frz (h.imp (fun ⟨o, q, n⟩ => ⟨o, q, fun z => n (e2 _ z)⟩) id) l ih
theorem Own.as' (r : Own K cl ω H a d) (e1 : ∀ (n : Nat) (a : Addr), ω.rho[n]? = some a → ω'.rho[n]? = some a) (e2 : ∀ b, ω'.bar b → ω.bar b) : Own K cl ω' H a d := by
  cases d with
  | lst ds => obtain ⟨vs, q, r⟩ := r; exact ⟨vs, q, r.1, fun i v d h1 h2 => (r.2 i v d h1 h2).as' e1 e2⟩
  | dct ds => obtain ⟨vs, q, r⟩ := r; exact ⟨vs, q, r.1, fun i k v q d h1 h2 => ⟨(r.2 i k v q d h1 h2).1, (r.2 i k v q d h1 h2).2.as' e1 e2⟩⟩
  | ins c gs => obtain ⟨dx, fs, q, r⟩ := r; exact ⟨dx, fs, q, r.1, fun i k v q d h1 h2 => ⟨(r.2 i k v q d h1 h2).1, (r.2 i k v q d h1 h2).2.as' e1 e2⟩⟩
  | _ => exact r.elim
theorem sto_pre (n : Nat) (b : Addr) (h : ω.rho[n]? = some b) : (ω.sto a).rho[n]? = some b := by
  have hn : n < ω.rho.length := by
    rcases Nat.lt_or_ge n ω.rho.length with z | z
    · exact z
    · rw [List.getElem?_eq_none z] at h; cases h
  show (ω.rho ++ [a])[n]? = some b
  rw [List.getElem?_append_left hn]
  exact h
theorem SR.mkSto (s : SR K cl own ω σ H δ S) (ha : ω.av a) (o : Own K cl ω H a d) (hi : i ∉ own) (hl : i < δ.length) : SR K cl own (ω.sto a) (σ.set i (some (.ref a))) H (δ.set i (some (.obj S.length))) (S ++ [d]) := by
  have hA := s.wok.av a ha
  have hb : ∀ b, (ω.sto a).bar b → ω.bar b := fun b z => Wd.sto_bar ha z
  have hl2 : i < σ.length := by rw [s.len]; exact hl
  have wok : WOk (ω.sto a) H := by
    refine ⟨?_, fun b z => ?_, fun j b z => ?_, s.wok.inj, fun b z => ⟨(s.wok.av b z.1).1, fun y => ?_⟩⟩
    · exact List.nodup_append.mpr ⟨s.wok.nd, by simp, fun x hx y hy e => by
        have : y = a := by simpa using hy
        subst this; subst e
        exact hA.2 hx⟩
    · rcases List.mem_append.mp z with z | z
      · exact s.wok.rho b z
      · have : b = a := by simpa using z
        rw [this]; exact hA.1
    · have h := s.wok.ow j b z
      refine ⟨h.1, fun y => ?_, fun y => h.2.2 y.1⟩
      rcases List.mem_append.mp y with y | y
      · exact h.2.1 y
      · have : b = a := by simpa using y
        exact h.2.2 (this ▸ ha)
    · rcases List.mem_append.mp y with y | y
      · exact (s.wok.av b z.1).2 y
      · exact z.2 (by simpa using y)
  refine ⟨by simp [s.len], wok, fun j e h1 h2 => ?_, fun j e h1 h2 => ?_, ⟨by simp [s.sto.len], fun n b e h1 h2 => ?_⟩⟩
  · by_cases z : i = j
    · subst z
      rw [List.getElem?_set_self hl] at h1
      cases h1
      refine ⟨.ref a, by rw [List.getElem?_set_self hl2], .obj ?_⟩
      show (ω.rho ++ [a])[S.length]? = some a
      rw [← s.sto.len, List.getElem?_append_right (Nat.le_refl _)]
      simp
    · rw [List.getElem?_set_ne z] at h1
      rw [List.getElem?_set_ne z]
      obtain ⟨v, q, r⟩ := s.slot j e h1 h2
      exact ⟨v, q, r.as' sto_pre hb⟩
  · have z : i ≠ j := fun y => hi (y ▸ h2)
    rw [List.getElem?_set_ne z] at h1
    rw [List.getElem?_set_ne z]
    rcases s.osl j e h1 h2 with ⟨b, q, y, x⟩ | ⟨hm, v, q, r⟩
    · exact .inl ⟨b, q, y, x.as' sto_pre hb⟩
    · exact .inr ⟨hm, v, q, r.as' sto_pre hb⟩
  · have h1' : (ω.rho ++ [a])[n]? = some b := h1
    by_cases hn : n < ω.rho.length
    · rw [List.getElem?_append_left hn] at h1'
      rw [List.getElem?_append_left (by rw [← s.sto.len]; exact hn)] at h2
      exact (s.sto.obj n b e h1' h2).as' sto_pre hb
    · rw [List.getElem?_append_right (by omega)] at h1'
      rw [List.getElem?_append_right (by rw [← s.sto.len]; omega)] at h2
      have hn0 : n - ω.rho.length = 0 := by
        rcases Nat.eq_zero_or_pos (n - ω.rho.length) with z | z
        · exact z
        · rw [List.getElem?_eq_none (by simp; omega)] at h1'; cases h1'
      rw [hn0] at h1'
      rw [← s.sto.len, hn0] at h2
      simp at h1' h2
      subst h1'; subst h2
      exact o.as' sto_pre hb
/-- .. of no slot -/
theorem SR.sto1 (s : SR K cl own ω σ H δ S) (ha : ω.av a) (o : Own K cl ω H a d) : SR K cl own (ω.sto a) σ H δ (S ++ [d]) ∧ Rep K cl (ω.sto a) H (.ref a) (.obj S.length) := by
  have hA := s.wok.av a ha
  have hb : ∀ b, (ω.sto a).bar b → ω.bar b := fun b z => Wd.sto_bar ha z
  have wok : WOk (ω.sto a) H := by
    refine ⟨?_, fun b z => ?_, fun j b z => ?_, s.wok.inj, fun b z => ⟨(s.wok.av b z.1).1, fun y => ?_⟩⟩
    · exact List.nodup_append.mpr ⟨s.wok.nd, by simp, fun x hx y hy e => by
        have : y = a := by simpa using hy
        subst this; subst e
        exact hA.2 hx⟩
    · rcases List.mem_append.mp z with z | z
      · exact s.wok.rho b z
      · have : b = a := by simpa using z
        rw [this]; exact hA.1
    · have h := s.wok.ow j b z
      refine ⟨h.1, fun y => ?_, fun y => h.2.2 y.1⟩
      rcases List.mem_append.mp y with y | y
      · exact h.2.1 y
      · have : b = a := by simpa using y
        exact h.2.2 (this ▸ ha)
    · rcases List.mem_append.mp y with y | y
      · exact (s.wok.av b z.1).2 y
      · exact z.2 (by simpa using y)
  have hobj : (ω.rho ++ [a])[S.length]? = some a := by
    rw [← s.sto.len, List.getElem?_append_right (Nat.le_refl _)]
    simp
  refine ⟨⟨s.len, wok, fun j e h1 h2 => ?_, fun j e h1 h2 => ?_, ⟨by simp [s.sto.len], fun n b e h1 h2 => ?_⟩⟩, .obj hobj⟩
  · obtain ⟨v, q, r⟩ := s.slot j e h1 h2
    exact ⟨v, q, r.as' sto_pre hb⟩
  · rcases s.osl j e h1 h2 with ⟨b, q, y, x⟩ | ⟨hm, v, q, r⟩
    · exact .inl ⟨b, q, y, x.as' sto_pre hb⟩
    · exact .inr ⟨hm, v, q, r.as' sto_pre hb⟩
  · have h1' : (ω.rho ++ [a])[n]? = some b := h1
    by_cases hn : n < ω.rho.length
    · rw [List.getElem?_append_left hn] at h1'
      rw [List.getElem?_append_left (by rw [← s.sto.len]; exact hn)] at h2
      exact (s.sto.obj n b e h1' h2).as' sto_pre hb
    · rw [List.getElem?_append_right (by omega)] at h1'
      rw [List.getElem?_append_right (by rw [← s.sto.len]; omega)] at h2
      have hn0 : n - ω.rho.length = 0 := by
        rcases Nat.eq_zero_or_pos (n - ω.rho.length) with z | z
        · exact z
        · rw [List.getElem?_eq_none (by simp; omega)] at h1'; cases h1'
      rw [hn0] at h1'
      rw [← s.sto.len, hn0] at h2
      simp at h1' h2
      subst h1'; subst h2
      exact o.as' sto_pre hb
theorem NewAt.take (n : NewAt ω H ω' H' [a]) (k : WOk ω H) (Mu : List Nat) (i : Nat) : GoS Mu ω H (ω'.take i a) H' ∧ (ω'.take i a).av = ω.av := by
  have e : ∀ b, (ω'.av b ∧ b ≠ a) ↔ ω.av b := fun b => by
    rw [n.av]
    constructor
    · rintro ⟨z | z, y⟩
      · exact z
      · exact absurd (by simpa using z) y
    · exact fun z => ⟨.inl z, fun y => (k.av b z).1 (y ▸ n.new a (by simp))⟩
  have g := n.st.mono (M' := Mu) fun _ z => nomatch z
  refine ⟨⟨g.pre, g.keep, g.tup, g.new, fun j b z => ?_, fun b z => .inl ((e b).mp z), g.dom⟩, funext fun b => propext (e b)⟩
  have z' : (if j = i then some a else ω'.ow j) = some b := z
  by_cases y : j = i
  · rw [if_pos y] at z'
    cases z'
    exact .inr (n.new a (by simp))
  · rw [if_neg y] at z'
    exact g.own j b z'
theorem NewAt.sto (n : NewAt ω H ω' H' [a]) (k : WOk ω H) (Mu : List Nat) : GoS Mu ω H (ω'.sto a) H' ∧ (ω'.sto a).av = ω.av := by
  have e : ∀ b, (ω'.av b ∧ b ≠ a) ↔ ω.av b := fun b => by
    rw [n.av]
    constructor
    · rintro ⟨z | z, y⟩
      · exact z
      · exact absurd (by simpa using z) y
    · exact fun z => ⟨.inl z, fun y => (k.av b z).1 (y ▸ n.new a (by simp))⟩
  have g := n.st.mono (M' := Mu) fun _ z => nomatch z
  refine ⟨⟨fun m b z => sto_pre m b (g.pre m b z), g.keep, g.tup, fun b z y => ?_, g.own, fun b z => .inl ((e b).mp z), g.dom⟩, funext fun b => propext (e b)⟩
  intro x
  rcases List.mem_append.mp x with x | x
  · exact g.new b z y x
  · have : b = a := by simpa using x
    exact z (this ▸ n.new a (by simp))
/-- what an own slot holds is changed -/
theorem SR.chgOwn {o : HO} (s : SR K cl own ω σ H δ S) (hi : i ∈ own) (hv : σ[i]? = some (some (.ref a))) (hw : ω.ow i = some a) (ho : Own K cl ω (L2.upd H a o) a d) (hp : ∀ xs, ¬ Rd H a (.tup xs)) (hl : i < δ.length) :
    SR K cl own ω σ (L2.upd H a o) (δ.set i (some d)) S ∧ GoS [i] ω H ω (L2.upd H a o) := by
  have h1 := upd_bar (H := H) (o := o) (p := a) (ω := ω) (.inr (.inl ⟨i, hw⟩))
  have h2 : ∀ b xs, PTu K H b xs → PTu K (L2.upd H a o) b xs := fun b xs h => upd_ptu hp h
  refine ⟨⟨by simp [s.len], s.wok.dom upd_dom, fun j e q1 q2 => ?_, fun j e q1 q2 => ?_, ⟨s.sto.len, fun n b e q1 q2 => ?_⟩⟩, ⟨fun _ _ h => h, fun b u h n m => ?_, fun b xs h => ?_, fun _ _ h => h, fun _ _ h => .inl h, fun _ h => .inl h, upd_dom⟩⟩
  · have z : i ≠ j := fun y => q2 (y ▸ hi)
    rw [List.getElem?_set_ne z] at q1
    obtain ⟨v, q, r⟩ := s.slot j e q1 q2
    exact ⟨v, q, r.chg h1 h2⟩
  · by_cases z : i = j
    · subst z
      rw [List.getElem?_set_self hl] at q1
      cases q1
      exact .inl ⟨a, hv, hw, ho⟩
    · rw [List.getElem?_set_ne z] at q1
      rcases s.osl j e q1 q2 with ⟨b, q, y, x⟩ | ⟨hm, v, q, r⟩
      · exact .inl ⟨b, q, y, x.chg h1 h2 (upd_ne fun e => z (s.wok.inj i j a hw (e ▸ y)))⟩
      · exact .inr ⟨hm, v, q, r.chg h1 h2⟩
  · exact (s.sto.obj n b e q1 q2).chg h1 h2 (upd_ne fun e => (s.wok.ow i a hw).2.1 (e ▸ List.mem_of_getElem? q1))
  · rw [upd_ne (fun z => m i (by simp) (by rw [z]; exact hw))]
    exact h
  · obtain ⟨u, h, hd⟩ := h
    have hn : b ≠ a := fun z => hp xs (.inr ⟨u, z ▸ h⟩)
    exact ⟨u, by rw [upd_ne hn]; exact h, hd⟩
/-- a thing of the store is changed -/
theorem SR.chgSto {o : HO} {n : Nat} (s : SR K cl own ω σ H δ S) (hn : ω.rho[n]? = some a) (ho : Own K cl ω (L2.upd H a o) a d) (hp : ∀ xs, ¬ Rd H a (.tup xs)) (Mu : List Nat) :
    SR K cl own ω σ (L2.upd H a o) δ (S.set n d) ∧ GoS Mu ω H ω (L2.upd H a o) := by
  have hm := List.mem_of_getElem? hn
  have h1 := upd_bar (H := H) (o := o) (p := a) (ω := ω) (.inl hm)
  have h2 : ∀ b xs, PTu K H b xs → PTu K (L2.upd H a o) b xs := fun b xs h => upd_ptu hp h
  refine ⟨⟨s.len, s.wok.dom upd_dom, fun j e q1 q2 => ?_, fun j e q1 q2 => ?_, ⟨by simp [s.sto.len], fun m b e q1 q2 => ?_⟩⟩, ⟨fun _ _ h => h, fun b u h z _ => ?_, fun b xs h => ?_, fun _ _ h => h, fun _ _ h => .inl h, fun _ h => .inl h, upd_dom⟩⟩
  · obtain ⟨v, q, r⟩ := s.slot j e q1 q2
    exact ⟨v, q, r.chg h1 h2⟩
  · rcases s.osl j e q1 q2 with ⟨b, q, y, x⟩ | ⟨hm, v, q, r⟩
    · exact .inl ⟨b, q, y, x.chg h1 h2 (upd_ne fun e => (s.wok.ow j b y).2.1 (e ▸ hm))⟩
    · exact .inr ⟨hm, v, q, r.chg h1 h2⟩
  · by_cases z : n = m
    · subst z
      rw [hn] at q1
      cases q1
      rw [List.getElem?_set] at q2
      simp only [if_true] at q2
      split at q2
      · cases q2; exact ho
      · cases q2
    · rw [List.getElem?_set_ne z] at q2
      refine (s.sto.obj m b e q1 q2).chg h1 h2 (upd_ne fun e => z ?_)
      subst e
      have l1 : n < ω.rho.length := (List.getElem?_eq_some_iff.mp hn).1
      have l2 : m < ω.rho.length := (List.getElem?_eq_some_iff.mp q1).1
      exact (List.getElem?_inj l1 s.wok.nd).mp (hn.trans q1.symm)
  · rw [upd_ne (fun y => z (by rw [y]; exact hm))]
    exact h
  · obtain ⟨u, h, hd⟩ := h
    have hne : b ≠ a := fun z => hp xs (.inr ⟨u, z ▸ h⟩)
    exact ⟨u, by rw [upd_ne hne]; exact h, hd⟩
end

section
variable {K : PySem.W.Frag} {cl : Nat → Addr} {own : List Nat} {nw : Bool} {Mu : List Nat} {X : Cx} {a c e tg iter : Expr} {st : Stmt} {rest body orelse : List Stmt} {pos p : Pos} {f g : En → M D} {t : En → M Bool} {fs gs : En → M Fl} {ls : En → M (List D)} {T : Tg}
/-! ### blocks -/
theorem rss_nil : PSs X [] (tS K cl own nw Mu fun δ => pure (.nx δ)) := pss_nil.imp fun D σ H ⟨ω, δ, S, s, q⟩ => sG.nx q s
theorem rss_cons (h1 : PS X st (tS K cl own nw Mu fs)) (h2 : PSs X rest (tS K cl own nw Mu gs)) : PSs X (st :: rest) (tS K cl own nw Mu fun δ => do
    match ← fs δ with
    | .nx δ' => gs δ'
    | .bk δ' => pure (.bk δ')
    | .rt v => pure (.rt v)) := by
  refine (pss_cons h1 h2).imp fun D σ H ⟨ω, δ, S, s, q⟩ => ⟨ω, δ, S, s, ?_⟩
  dsimp only at q
  rw [M.bind_run] at q
  cases e : fs δ S with
  | exc _ _ => rw [e] at q; exact q.elim
  | no => rw [e] at q; exact q.elim
  | ok fl S1 =>
    rw [e] at q
    cases fl with
    | nx δ1 => exact fun ω1 σ1 H1 g1 e1 s1 => ⟨ω1, δ1, S1, s1, sG.go q g1 e1⟩
    | bk δ1 => exact q
    | rt d => exact q
theorem rs_if {b1 b2 : List Stmt} (hc : PT X c (tT K cl own t)) (ha : PSs X b1 (tS K cl own nw Mu fs)) (hb : PSs X b2 (tS K cl own nw Mu gs)) : PS X (.If c b1 b2 pos) (tS K cl own nw Mu fun δ => do if ← t δ then fs δ else gs δ) := by
  refine (ps_if hc ha hb).imp fun D σ H ⟨ω, δ, S, s, q⟩ => ⟨ω, δ, S, s, sG_bind q fun ω1 k H1 k' S1 g1 s1 r1 q1 => ?_⟩
  subst r1
  cases k with
  | true => exact ⟨ω1, δ, S1, s1, q1⟩
  | false => exact ⟨ω1, δ, S1, s1, q1⟩
theorem rs_pass : PS X (.Pass pos) (tS K cl own nw Mu fun δ => pure (.nx δ)) := ps_pass.imp fun D σ H ⟨ω, δ, S, s, q⟩ => sG.nx q s
theorem rs_break : PS X (.Break pos) (tS K cl own nw Mu fun δ => pure (.bk δ)) := ps_break.imp fun D σ H ⟨ω, δ, S, s, q⟩ => q ω σ H (GoS.refl _ _ _) rfl s
theorem rs_never : PS X st (tS K cl own nw Mu fun _ => M.no) := ps_never.imp fun D σ H ⟨ω, δ, S, s, q⟩ => q
theorem rs_doc {x : Str} {j : Nat} {pos' : Pos} : PS X (.Expr (.Constant (.str x) j pos) pos') (tS K cl own nw Mu fun δ => pure (.nx δ)) := ps_doc.imp fun D σ H ⟨ω, δ, S, s, q⟩ => sG.nx q s
theorem sw_none {e : Expr} (h : okSw e = true) {t : Option Expr} {l : Nat} {env : Env} : swapsWith e t l env = pure false := by
  cases e <;> first | rfl | cases h
theorem rs_expr (he : PE X e (tE K cl own true f)) (h : okSw e = true) : PS X (.Expr e pos) (tS K cl own nw Mu fun δ => do
    let _ ← f δ
    pure (.nx δ)) := by
  refine (ps_expr he (sw_none h)).imp fun D σ H ⟨ω, δ, S, s, q⟩ => ⟨ω, δ, S, s, sG_bind q fun ω1 v H1 x S1 g1 s1 r1 q1 => ?_⟩
  exact sG.nx q1 s1
/-! ### return -/
/-- the frame is left: what its own slots hold is given away -/
theorem SR.leave {ω : Wd} {H : Hp} {σ : L2.St} {δ : En} {S : Sto} (s : SR K cl own ω σ H δ S) : SR K cl [] ω.noOw σ H δ S := by
  have hb : ∀ b, ω.noOw.bar b → ω.bar b := fun b z => by
    rcases z with z | ⟨i, z⟩ | z
    · exact .inl z
    · cases z
    · exact .inr (.inr z)
  refine ⟨s.len, ⟨s.wok.nd, s.wok.rho, (fun i a z => nomatch z), (fun i j a z => nomatch z), s.wok.av⟩, fun i d h1 _ => ?_, (fun i d h1 h2 => nomatch h2), ⟨s.sto.len, fun n a d h1 h2 => (s.sto.obj n a d h1 h2).as rfl hb⟩⟩
  by_cases hi : i ∈ own
  · rcases s.osl i d h1 hi with ⟨a, q, y, x⟩ | ⟨hm, v, q, r⟩
    · refine ⟨_, q, x.rep rfl hb fun z => ?_⟩
      rcases z with z | ⟨j, z⟩ | z
      · exact (s.wok.ow i a y).2.1 z
      · cases z
      · exact (s.wok.ow i a y).2.2 z
    · exact ⟨v, q, r.as rfl hb⟩
  · obtain ⟨v, q, r⟩ := s.slot i d h1 hi
    exact ⟨v, q, r.as rfl hb⟩
theorem rs_ret (he : PE X e (tE K cl [] false f)) : PS X (.Return (some e) pos) (tS K cl own false Mu fun δ => do pure (.rt (← f δ))) := by
  refine (ps_ret he).imp fun D σ H ⟨ω, δ, S, s, q⟩ => ⟨ω.noOw, δ, S, s.leave, ?_⟩
  dsimp only at q
  rw [M.bind_run] at q
  cases e : f δ S with
  | exc _ _ => rw [e] at q; exact q.elim
  | no => rw [e] at q; exact q.elim
  | ok d S1 =>
    rw [e] at q
    intro ω1 v H1 g1 s1 r1
    have eo : ω1.ow = fun _ => none := g1.eq
    refine q ω1 v H1 ⟨g1.st.pre, fun a o h n _ => g1.st.keep a o h n (fun _ z => nomatch z), g1.st.tup, g1.st.new, (fun i a z => by rw [eo] at z; cases z), (fun a z => (g1.st.av a z).imp id fun y => y.elim .inl fun ⟨_, w⟩ => nomatch w), g1.st.dom⟩ g1.ea eo s1.wok s1.sto r1
theorem rs_retN : PS X (.Return none pos) (tS K cl own false Mu fun _ => pure (.rt .non)) := by
  refine ps_retN.imp fun D σ H ⟨ω, δ, S, s, q⟩ => ?_
  have s' := s.leave
  exact q ω.noOw .non H ⟨fun _ _ h => h, fun _ _ h _ _ => h, fun _ _ h => h, fun _ _ h => h, (fun i a z => nomatch z), fun _ h => .inl h, fun _ h => h⟩ rfl rfl s'.wok s'.sto .non
/-- return of something new -/
theorem rs_retX (he : PE X e (tN1 K cl [] f)) : PS X (.Return (some e) pos) (tS K cl own true Mu fun δ => do pure (.rt (← f δ))) := by
  refine (ps_ret he).imp fun D σ H ⟨ω, δ, S, s, q⟩ => ⟨ω.noOw, δ, S, s.leave, ?_⟩
  dsimp only at q
  rw [M.bind_run] at q
  cases e : f δ S with
  | exc _ _ => rw [e] at q; exact q.elim
  | no => rw [e] at q; exact q.elim
  | ok d S1 =>
    rw [e] at q
    intro ω1 a H1 n1 s1 o1
    have eo : ω1.ow = fun _ => none := n1.eq
    refine q ω1 a H1 ⟨n1.st.pre, fun b o h n _ => n1.st.keep b o h n (fun _ z => nomatch z), n1.st.tup, n1.st.new, (fun i b z => by rw [eo] at z; cases z), (fun a z => (n1.st.av a z).imp id fun y => y.elim .inl fun ⟨_, w⟩ => nomatch w), n1.st.dom⟩ (.inl (n1.new a (by simp))) (fun b => by rw [n1.av]; simp) eo s1.wok s1.sto o1
/-- return of what an own slot holds -/
theorem rs_retO {i : Nat} {x : Str} {px : Pos} (hN : X.N[i]? = some x) (hv : Vis X.env.scope x) (hd : (x == ("__debug__" : Str)) = false) (hcd : (x == ("__classdict__" : Str)) = false) (hi : i ∈ own) :
    PS X (.Return (some (.Name x px)) pos) (tS K cl own true Mu fun δ => do
      let d ← getV δ i
      if d.imm = true then M.no else pure (.rt d)) := by
  refine (ps_ret (pe_var hN hv hd hcd)).imp fun D σ H ⟨ω, δ, S, s, q⟩ => ?_
  dsimp only at q
  rw [M.bind_run] at q
  unfold getV at q
  cases eo : δ[i]? with
  | none => rw [eo] at q; exact q.elim
  | some oo =>
  cases oo with
  | none => rw [eo] at q; exact q.elim
  | some d =>
  rw [eo] at q
  simp only [M.pure_run] at q
  by_cases hm : d.imm = true
  · rw [if_pos hm] at q; exact q.elim
  rw [if_neg hm] at q
  rcases s.osl i d eo hi with ⟨A, hσ, hw, ho⟩ | ⟨hm', w, hσ, hr⟩
  case inr => exact absurd hm' hm
  refine ⟨.ref A, hσ, ?_⟩
  let ω' : Wd := { rho := ω.rho, ow := fun _ => none, av := fun b => ω.av b ∨ b = A }
  have hb : ∀ b, ω'.bar b → ω.bar b := fun b z => by
    rcases z with z | ⟨j, z⟩ | z | z
    · exact .inl z
    · cases z
    · exact .inr (.inr z)
    · exact .inr (.inl ⟨i, z ▸ hw⟩)
  have hA := s.wok.ow i A hw
  refine q ω' A H ?_ (.inr ⟨i, hw⟩) (fun b => Iff.rfl) rfl ⟨s.wok.nd, s.wok.rho, (fun i a z => nomatch z), (fun i j a z => nomatch z), fun b z => ?_⟩ ⟨s.sto.len, fun n a d h1 h2 => (s.sto.obj n a d h1 h2).as rfl hb⟩ (ho.as rfl hb)
  · refine ⟨fun _ _ h => h, fun _ _ h _ _ => h, fun _ _ h => h, fun _ _ h => h, (fun i a z => nomatch z), fun b h => ?_, fun _ h => h⟩
    rcases h with h | h
    · exact .inl h
    · exact .inr (.inr ⟨i, h ▸ hw⟩)
  · rcases z with z | z
    · exact s.wok.av b z
    · rw [z]; exact ⟨hA.1, hA.2.1⟩
end
end RF
end
section
set_option linter.all false
set_option maxRecDepth 100000
set_option maxHeartbeats 4000000
set_option autoImplicit false
/-! RfSnd13: assignments, loops. -/
namespace RF
open PySem PySem.Spec L2
open PyProof.Rows hiding St

section
variable {K : PySem.W.Frag} {cl : Nat → Addr} {own : List Nat} {nw : Bool} {Mu : List Nat} {X : Cx} {a c e tg iter : Expr} {st : Stmt} {rest body orelse : List Stmt} {pos p p2 : Pos} {f g : En → M D} {t : En → M Bool} {fs gs : En → M Fl} {ls : En → M (List D)} {T : Tg} {i : Nat} {x : Str}
/-! ### assignments -/
theorem asg_ok {ω : Wd} {H : Hp} {σ : L2.St} {δ : En} {S : Sto} {Dn : Ends} {v : V} {d : D} (s : SR K cl own ω σ H δ S) (r : Rep K cl ω H v d) (q : sG K cl own nw Mu ω H Dn ((do pure (.nx (← M.ofO (bindT T d δ))) : M Fl) S)) : tGt K cl own T v σ H Dn.nx := by
  refine ⟨ω, δ, S, d, s, r, ?_⟩
  rw [M.bind_run] at q
  cases e : bindT T d δ with
  | none => rw [e] at q; exact q.elim
  | some δ' =>
    rw [e] at q
    exact fun σ' s' _ => q ω σ' H (GoS.refl _ _ _) rfl s'
theorem rs_asg (he : PE X e (tE K cl own false f)) (hg : PG X tg (tGt K cl own T)) (hsw : okSw e = true) (hw : swappedStores [tg] e X.env = pure none) (hs : okShape tg = true) :
    PS X (.Assign [tg] e pos) (tS K cl own nw Mu fun δ => do
      let d ← f δ
      pure (.nx (← M.ofO (bindT T d δ)))) := by
  refine (ps_asg he hg (sw_none hsw) hw (assign_cons hs)).imp fun D σ H ⟨ω, δ, S, s, q⟩ => ⟨ω, δ, S, s, sG_bind q fun ω1 v H1 x S1 g1 s1 r1 q1 => ?_⟩
  exact asg_ok s1 r1 q1
/-- the slot's place -/
structure NmOk (X : Cx) (i : Nat) (x : Str) : Prop where
  nd : X.N.Nodup
  ix : X.N[i]? = some x
  loc : Loc X.env.scope x
  fn : X.fn x = true ∨ X.env.scope.names.lookup x = some .local
/-- what follows a new thing's coming -/
theorem own_ok {ω : Wd} {H : Hp} {σ : L2.St} {δ : En} {S : Sto} {Dn : Ends} (hi : i ∈ own) (s : SR K cl own ω σ H δ S) (q : sG K cl own nw Mu ω H Dn ((do
      let d ← f δ
      pure (.nx (← M.ofO (bindT (.nm i) d δ))) : M Fl) S)) : nG K cl own ω H σ δ (fun v H' => Dn.nx (σ.set i (some v)) H') (f δ S) := by
  rw [M.bind_run] at q
  cases e : f δ S with
  | exc _ _ => rw [e] at q; exact q.elim
  | no => rw [e] at q; exact q.elim
  | ok d S' =>
    rw [e] at q
    intro ω' b H' n s' o
    dsimp only at q
    rw [M.bind_run] at q
    unfold bindT at q
    by_cases hl : i < δ.length
    · rw [if_pos hl] at q
      obtain ⟨g, ea⟩ := n.take s.wok Mu i
      exact q _ _ H' g ea (s'.setOwn ((n.av b).mpr (.inr (by simp))) o hi hl)
    · rw [if_neg hl] at q
      exact q.elim
theorem sto_ok {ω : Wd} {H : Hp} {σ : L2.St} {δ : En} {S : Sto} {Dn : Ends} (hi : i ∉ own) (s : SR K cl own ω σ H δ S) (q : sG K cl own nw Mu ω H Dn ((do
      let d ← f δ
      fun s => match bindT (.nm i) (.obj s.length) δ with
        | some δ' => .ok (.nx δ') (s ++ [d])
        | none => .no : M Fl) S)) : nG K cl own ω H σ δ (fun v H' => Dn.nx (σ.set i (some v)) H') (f δ S) := by
  rw [M.bind_run] at q
  cases e : f δ S with
  | exc _ _ => rw [e] at q; exact q.elim
  | no => rw [e] at q; exact q.elim
  | ok d S' =>
    rw [e] at q
    intro ω' b H' n s' o
    dsimp only at q
    unfold bindT at q
    by_cases hl : i < δ.length
    · rw [if_pos hl] at q
      obtain ⟨g, ea⟩ := n.sto s.wok Mu
      exact q _ _ H' g ea (s'.mkSto ((n.av b).mpr (.inr (by simp))) o hi hl)
    · rw [if_neg hl] at q
      exact q.elim
/-- a plain slot takes what is given away -/
theorem giv_ok {ω : Wd} {H : Hp} {σ : L2.St} {δ : En} {S : Sto} {Dn : Ends} (hi : i ∉ own) (s : SR K cl own ω σ H δ S) (q : sG K cl own nw Mu ω H Dn ((do
      let d ← f δ
      pure (.nx (← M.ofO (bindT (.nm i) d δ))) : M Fl) S)) : nG K cl own ω H σ δ (fun v H' => Dn.nx (σ.set i (some v)) H') (f δ S) := by
  rw [M.bind_run] at q
  cases e : f δ S with
  | exc _ _ => rw [e] at q; exact q.elim
  | no => rw [e] at q; exact q.elim
  | ok d S' =>
    rw [e] at q
    intro ω' b H' n s' o
    obtain ⟨ω'', g, s'', r⟩ := n.give s.wok s' o
    dsimp only at q
    rw [M.bind_run] at q
    unfold bindT at q
    by_cases hl : i < δ.length
    · rw [if_pos hl] at q
      exact q ω'' _ H' (g.s Mu) g.ea (s''.set r hi hl)
    · rw [if_neg hl] at q
      exact q.elim
theorem rs_own (N : NmOk X i x) (hi : i ∈ own) (he : PE X e (tN1 K cl own f)) (hsw : okSw e = true) : PS X (.Assign [.Name x p] e pos) (tS K cl own nw Mu fun δ => do
      let d ← f δ
      pure (.nx (← M.ofO (bindT (.nm i) d δ)))) :=
  (ps_set N.nd N.ix N.loc he (sw_none hsw) N.fn).imp fun D σ H ⟨ω, δ, S, s, q⟩ => ⟨ω, δ, S, s, own_ok hi s q⟩
theorem rs_mk (N : NmOk X i x) (hi : i ∉ own) (he : PE X e (tN1 K cl own f)) (hsw : okSw e = true) : PS X (.Assign [.Name x p] e pos) (tS K cl own nw Mu fun δ => do
      let d ← f δ
      fun s => match bindT (.nm i) (.obj s.length) δ with
        | some δ' => .ok (.nx δ') (s ++ [d])
        | none => .no) :=
  (ps_set N.nd N.ix N.loc he (sw_none hsw) N.fn).imp fun D σ H ⟨ω, δ, S, s, q⟩ => ⟨ω, δ, S, s, sto_ok hi s q⟩
theorem rs_asgI (N : NmOk X i x) (hi : i ∈ own) (he : PE X e (tE K cl own false f)) (hsw : okSw e = true) : PS X (.Assign [.Name x p] e pos) (tS K cl own nw Mu fun δ => do
      let d ← f δ
      if d.imm = true then pure (.nx (← M.ofO (bindT (.nm i) d δ))) else M.no) := by
  refine (ps_set N.nd N.ix N.loc he (sw_none hsw) N.fn).imp fun D σ H ⟨ω, δ, S, s, q⟩ => ⟨ω, δ, S, s, sG_bind q fun ω1 v H1 x S1 g1 s1 r1 q1 => ?_⟩
  by_cases hm : x.imm = true
  · rw [if_pos hm] at q1
    rw [M.bind_run] at q1
    unfold bindT at q1
    by_cases hl : i < δ.length
    · rw [if_pos hl] at q1
      exact q1 ω1 _ H1 (GoS.refl _ _ _) rfl (s1.setImm r1 hm hi hl)
    · rw [if_neg hl] at q1
      exact q1.elim
  · rw [if_neg hm] at q1
    exact q1.elim
/-! ### name = [..] -/
variable {elt : Expr} {ifs : List Expr} {scope : Scope} {ow : List (Str × Nat)} {itf : En → M (List D)} {tg2 : Expr} {tt : En → M Bool} {te : En → M D}
def lcF (T : Tg) (vs : List Nat) (itf : En → M (List D)) (tt : En → M Bool) (te : En → M D) : En → M D := fun δ => do
  let items ← itf δ
  let l ← compL (compF T vs tt te δ) items
  if items.length < line then pure (.lst l) else M.no
structure LcOk (K : PySem.W.Frag) (cl : Nat → Addr) (own : List Nat) (X : Cx) (elt tg iter : Expr) (ifs : List Expr) (scope : Scope) (ow : List (Str × Nat)) (T : Tg) (itf : En → M (List D)) (tt : En → M Bool) (te : En → M D) : Prop where
  hc : X.calm = true
  hN : X.N.Nodup
  hi : PI X tg iter (tI K cl own [] itf)
  ok : BlkOk X.N X.env.scope scope ow
  hg : ∀ (s : Shared) (H : Hp) (C : Addr) (cll : List (Str × Addr)) (fp : List Addr), PG (X.blk s H scope (compEnvC scope cll C X.env) fp) tg (tGt K cl own T)
  ht : ∀ (s : Shared) (H : Hp) (C : Addr) (cll : List (Str × Addr)) (fp : List Addr), PTs (X.blk s H scope (compEnvC scope cll C X.env) fp) ifs (tT K cl own tt)
  he : ∀ (s : Shared) (H : Hp) (C : Addr) (cll : List (Str × Addr)) (fp : List Addr), PE (X.blk s H scope (compEnvC scope cll C X.env) fp) elt (tE K cl own false te)
  hs : okShape iter = true
  hv : ∀ i ∈ Tg.slots T, i ∈ ow.map (·.2)
theorem LcOk.pe (L : LcOk X.K cl own X elt tg iter ifs scope ow T itf tt te) : PE X (.ListComp elt [⟨tg, iter, ifs, 0⟩] scope pos) (tN1 X.K cl own (lcF T (ow.map (·.2)) itf tt te)) :=
  rn_lc L.hc L.hN L.hi L.ok L.hg L.ht L.he L.hs L.hv
/-- whether the name stands on the comprehension's line, and is no name of the comprehension's own -/
def lcSw (x : Str) (p pos : Pos) (scope : Scope) : Bool := (p.line == pos.line) && !(scope.names.any fun (n, k) => n == x && (k == .local || k == .cell))
theorem rs_setLc (L : LcOk X.K cl own X elt tg iter ifs scope ow T itf tt te) {spos : Pos} (hy : X.N[i]? = some x) (hf : X.env.scope.kind = .function) (hl : X.env.scope.names.lookup x = some .local) (hsw : lcSw x p pos scope = true) {h : (En → M D) → En → M Fl}
    (hq : ∀ {ω : Wd} {H : Hp} {σ : L2.St} {δ : En} {S : Sto} {Dn : Ends}, SR X.K cl own ω σ H δ S → sG X.K cl own nw Mu ω H Dn (h (lcF T (ow.map (·.2)) itf tt te) δ S) → nG X.K cl own ω H σ δ (fun v H' => Dn.nx (σ.set i (some v)) H') (lcF T (ow.map (·.2)) itf tt te δ S)) :
    PS X (.Assign [.Name x p] (.ListComp elt [⟨tg, iter, ifs, 0⟩] scope pos) spos) (tS X.K cl own nw Mu (h (lcF T (ow.map (·.2)) itf tt te))) := by
  unfold lcSw at hsw
  rw [Bool.and_eq_true] at hsw
  refine (ps_setLc L.hc L.hN hy hl (sw_true hf hl hsw.1 (by simpa using hsw.2)) L.hi L.ok L.hg L.ht L.he (shape_fold L.hs _)).imp fun D σ H ⟨ω, δ, S, s, q⟩ => ?_
  exact lc_ok L.hv s (hq s q)
/-- not so -/
theorem sw_lc {gs : List Comprehension} {l : Nat} {env : Env} (h : lcSw x p pos scope = false) (hk : env.scope.kind = .function) (hl : env.scope.names.lookup x = some .local) : swapsWith (.ListComp elt gs scope pos) (some (.Name x p)) l env = pure false := by
  have ky : env.kindOf x = some .local := hl
  have hb : env.blockKind = .function := by unfold Env.blockKind; rw [hk]; rfl
  unfold lcSw at h
  unfold swapsWith
  simp only [hb, ky, Expr.pos]
  rw [Bool.and_eq_false_iff] at h
  rcases h with h | h
  · rw [h]; rfl
  · have h' : (scope.names.any fun (n, k) => n == x && (k == .local || k == .cell)) = true := by simpa using h
    rw [h']
    simp
theorem sw_lc2 {gs : List Comprehension} {l : Nat} {env : Env} (hl : env.scope.names.lookup x ≠ some .local) (hk : env.scope.kind = .function) : swapsWith (.ListComp elt gs scope pos) (some (.Name x p)) l env = pure false := by
  have hb : env.blockKind = .function := by unfold Env.blockKind; rw [hk]; rfl
  have ky : (env.kindOf x == some .local) = false := by
    show (env.scope.names.lookup x == some .local) = false
    cases e : env.scope.names.lookup x with
    | none => rfl
    | some k => cases k <;> first | rfl | (rw [e] at hl; exact absurd rfl hl)
  unfold swapsWith
  simp only [hb, ky]
  rfl
theorem rs_setE (N : NmOk X i x) (he : PE X e (tN1 K cl own f)) {spos : Pos} (hsw : swapsWith e (some (.Name x p)) spos.line X.env = pure false) {h : (En → M D) → En → M Fl}
    (hq : ∀ {ω : Wd} {H : Hp} {σ : L2.St} {δ : En} {S : Sto} {Dn : Ends}, SR K cl own ω σ H δ S → sG K cl own nw Mu ω H Dn (h f δ S) → nG K cl own ω H σ δ (fun v H' => Dn.nx (σ.set i (some v)) H') (f δ S)) :
    PS X (.Assign [.Name x p] e spos) (tS K cl own nw Mu (h f)) :=
  (ps_set N.nd N.ix N.loc he hsw N.fn).imp fun D σ H ⟨ω, δ, S, s, q⟩ => ⟨ω, δ, S, s, hq s q⟩
end
end RF
end
section
set_option linter.all false
set_option maxRecDepth 100000
set_option maxHeartbeats 4000000
set_option autoImplicit false
/-! RfSnd14: stores into lists and dicts, append, loops. -/
namespace RF
open PySem PySem.Spec L2
open PyProof.Rows hiding St

section
variable {cl : Nat → Addr} {own : List Nat} {nw : Bool} {Mu : List Nat} {X : Cx} {a c e tg iter k : Expr} {st : Stmt} {rest body orelse : List Stmt} {pos p p2 apos : Pos} {f g : En → M D} {t : En → M Bool} {fs gs : En → M Fl} {ls : En → M (List D)} {T : Tg} {i : Nat} {x : Str}
/-! ### o[k] = v -/
theorem lst_nt {H : Hp} {a : Addr} {xs : List V} (h : H a = some (.lst xs)) : ∀ ys, ¬ Rd H a (.tup ys) := fun ys z => by
  rcases z with z | ⟨u, z⟩ <;> (rw [h] at z; cases z)
theorem dK_nt {H : Hp} {a : Addr} {xs : List (Key × V)} (h : H a = some (.dK xs)) : ∀ ys, ¬ Rd H a (.tup ys) := fun ys z => by
  rcases z with z | ⟨u, z⟩ <;> (rw [h] at z; cases z)
theorem key_of {ω : Wd} {K : PySem.W.Frag} {H : Hp} {v : V} {d : D} {m : Ky} (r : RepB K cl ω H v d) (h : keyOf d = some m) : v = kV m := by
  cases d with
  | int i => cases h; exact r.int
  | str x => cases h; exact r.str
  | _ => cases h
theorem ixN_eq (n : Nat) (i : Int) : ixOf n i = ixN n i := rfl
theorem len_of {δ : En} {i : Nat} {o : Option D} (h : δ[i]? = some o) : i < δ.length := (List.getElem?_eq_some_iff.mp h).1
theorem sws_none {e tg : Expr} (h : okSw e = true) {l : Nat} {env : Env} : swapsWithSole [tg] e l env = pure false := sw_none h
theorem pset_or {t t' : TSet} (h : PSet X t) (h' : PSet X t') : PSet X (fun o i v H Q => t o i v H Q ∨ t' o i v H Q) := fun pins s σ H o i v ov iv u Q I r1 r2 r3 q =>
  q.elim (fun z => h pins s σ H o i v ov iv u Q I r1 r2 r3 z) fun z => h' pins s σ H o i v ov iv u Q I r1 r2 r3 z
theorem rs_setIx {py : Pos} (hN : X.N[i]? = some x) (hv : Vis X.env.scope x) (hd : (x == ("__debug__" : Str)) = false) (hcd : (x == ("__classdict__" : Str)) = false) (hio : i ∈ own) (hi : i ∈ Mu) (hun : X.A.units + 128 < cLine)
    (he : PE X e (tE X.K cl own false f)) (hk : PE X k (tE X.K cl own true g)) (hse : okSw e = true)
    (ha : ∀ v, assign (.Subscript (.Name x py) k p) X.env v = (do
      let ov ← holding [v] (eval (.Name x py) X.env)
      let iv ← holding [v, ov] (eval k X.env)
      standAt p
      holding [v, ov, iv] (setItem ov iv v)
      release [v, ov, iv] [])) :
    PS X (.Assign [.Subscript (.Name x py) k p] e pos) (tS X.K cl own nw Mu fun δ => do
      let v ← f δ
      let o ← getV δ i
      let q ← g δ
      setIxF i o q v δ) := by
  refine (ps_asg he (pg_sub (pe_var hN hv hd hcd) hk (pset_or set_list (set_dict (by omega))) ha) (sws_none hse) rfl rfl).imp fun D σ H ⟨ω, δ, S, s, q⟩ => ⟨ω, δ, S, s, sG_bind q fun ω1 v H1 d S1 g1 s1 r1 q1 => ?_⟩
  rw [M.bind_run] at q1
  unfold getV at q1
  cases eo : δ[i]? with
  | none => rw [eo] at q1; exact q1.elim
  | some oo =>
  cases oo with
  | none => rw [eo] at q1; exact q1.elim
  | some o =>
  rw [eo] at q1
  simp only [M.pure_run] at q1
  have hl := len_of eo
  rcases s1.osl i o eo hio with ⟨A, hσ, hw, ho⟩ | ⟨hm, w, hσ, hr⟩
  case inr =>
    refine ⟨w, hσ, ω1, δ, S1, s1, sG_bind q1 fun ω2 u H2 q' S2 g2 s2 r2 q2 => ?_⟩
    unfold setIxF at q2
    cases o with
    | lst l => exact absurd hm (by simp [RF.D.imm])
    | dct l => exact absurd hm (by simp [RF.D.imm])
    | _ => exact q2.elim
  refine ⟨.ref A, hσ, ω1, δ, S1, s1, sG_bind q1 fun ω2 u H2 q' S2 g2 s2 r2 q2 => ?_⟩
  have hw2 : ω2.ow i = some A := by rw [g2.eq]; exact hw
  have ho2 : Own X.K cl ω2 H2 A o := by
    refine ho.go g2.st ?_
    have wk := s1.wok.ow i A hw
    cases h : H1 A with
    | none => exact absurd h wk.1
    | some ob => exact g2.st.keep A ob h wk.2.1 fun _ z => nomatch z
  have r1' := Rep.go r1 g2.st
  have hbar : ∀ ob, ∀ b ob', H2 b = some ob' → ¬ ω2.bar b → upd H2 A ob b = some ob' := fun ob => upd_bar (.inr (.inl ⟨i, hw2⟩))
  unfold setIxF at q2
  cases o with
  | lst l =>
    cases q' with
    | int j =>
      dsimp only at q2
      cases em : ixOf l.length j with
      | none => rw [em] at q2; exact q2.elim
      | some m =>
      rw [em] at q2
      obtain ⟨vs, hh, rl⟩ := ho2
      refine .inl ⟨A, vs, j, m, rfl, RepB.int r2, hh, by rw [rl.1]; exact em, ?_⟩
      obtain ⟨s3, g3⟩ := s2.chgOwn (o := .lst (vs.set m v)) (d := .lst (l.set m d)) hio hσ hw2 ⟨vs.set m v, upd_same, (rl.set r1' m).chg (hbar _) fun _ _ => upd_ptu (lst_nt hh)⟩ (lst_nt hh) hl
      exact q2 ω2 σ _ (g3.mono fun j hj => by simp at hj; rw [hj]; exact hi) rfl s3
    | _ => exact q2.elim
  | dct l =>
    dsimp only at q2
    cases em : keyOf q' with
    | none => rw [em] at q2; exact q2.elim
    | some m =>
    rw [em] at q2
    dsimp only at q2
    by_cases hz : l.length < line
    case neg => rw [if_neg hz] at q2; exact q2.elim
    rw [if_pos hz] at q2
    obtain ⟨vs, hh, rl⟩ := ho2
    have hz2 : vs.length < sizeLine := by rw [rl.1, ← line_eq]; exact hz
    refine .inr ⟨A, _, rfl, by rw [key_of r2 em]; exact DPut.k hh hz2, ?_⟩
    obtain ⟨s3, g3⟩ := s2.chgOwn (o := .dK (putK vs m v)) (d := .dct (dput l m d)) hio hσ hw2 ⟨putK vs m v, upd_same, (rl.put r1').chg (hbar _) fun _ _ => upd_ptu (dK_nt hh)⟩ (dK_nt hh) hl
    exact q2 ω2 σ _ (g3.mono fun j hj => by simp at hj; rw [hj]; exact hi) rfl s3
  | ins c l => exact q2.elim
  | _ => exact ho2.elim
theorem rs_setOb {py : Pos} (hN : X.N[i]? = some x) (hv : Vis X.env.scope x) (hd : (x == ("__debug__" : Str)) = false) (hcd : (x == ("__classdict__" : Str)) = false) (hun : X.A.units + 128 < cLine)
    (he : PE X e (tE X.K cl own false f)) (hk : PE X k (tE X.K cl own true g)) (hse : okSw e = true)
    (ha : ∀ v, assign (.Subscript (.Name x py) k p) X.env v = (do
      let ov ← holding [v] (eval (.Name x py) X.env)
      let iv ← holding [v, ov] (eval k X.env)
      standAt p
      holding [v, ov, iv] (setItem ov iv v)
      release [v, ov, iv] [])) :
    PS X (.Assign [.Subscript (.Name x py) k p] e pos) (tS X.K cl own nw Mu fun δ => do
      let v ← f δ
      let o ← getV δ i
      let q ← g δ
      setObF o q v δ) := by
  refine (ps_asg he (pg_sub (pe_var hN hv hd hcd) hk (pset_or set_list (set_dict (by omega))) ha) (sws_none hse) rfl rfl).imp fun D σ H ⟨ω, δ, S, s, q⟩ => ⟨ω, δ, S, s, sG_bind q fun ω1 v H1 d S1 g1 s1 r1 q1 => ?_⟩
  rw [M.bind_run] at q1
  unfold getV at q1
  cases eo : δ[i]? with
  | none => rw [eo] at q1; exact q1.elim
  | some oo =>
  cases oo with
  | none => rw [eo] at q1; exact q1.elim
  | some o =>
  rw [eo] at q1
  simp only [M.pure_run] at q1
  cases o with
  | obj n =>
    have hr : ∃ w, σ[i]? = some (some w) ∧ Rep X.K cl ω1 H1 w (.obj n) := by
      by_cases hio : i ∈ own
      · rcases s1.osl i _ eo hio with ⟨A, hσ, hw, ho⟩ | ⟨hm, w, hσ, hr⟩
        · exact ho.elim
        · exact ⟨w, hσ, hr⟩
      · exact s1.slot i _ eo hio
    obtain ⟨w, hσ, hr⟩ := hr
    refine ⟨w, hσ, ω1, δ, S1, s1, sG_bind q1 fun ω2 u H2 q' S2 g2 s2 r2 q2 => ?_⟩
    have hr2 := hr.go g2.st
    have r1' := Rep.go r1 g2.st
    unfold setObF at q2
    dsimp only at q2
    cases hr2 with
    | @obj b _ hb =>
      have hbar : ∀ ob, ∀ c ob', H2 c = some ob' → ¬ ω2.bar c → upd H2 b ob c = some ob' := fun ob => upd_bar (.inl (List.mem_of_getElem? hb))
      cases en : S2[n]? with
      | none => rw [en] at q2; exact q2.elim
      | some d' =>
      rw [en] at q2
      cases d' with
      | lst l =>
        cases q' with
        | int j =>
          dsimp only at q2
          cases em : ixOf l.length j with
          | none => rw [em] at q2; exact q2.elim
          | some m =>
          rw [em] at q2
          obtain ⟨vs, hh, rl⟩ := s2.sto.obj n b _ hb en
          refine .inl ⟨b, vs, j, m, rfl, RepB.int r2, hh, by rw [rl.1]; exact em, ?_⟩
          obtain ⟨s3, g3⟩ := s2.chgSto (o := .lst (vs.set m v)) (d := .lst (l.set m d)) hb ⟨vs.set m v, upd_same, (rl.set r1' m).chg (hbar _) fun _ _ => upd_ptu (lst_nt hh)⟩ (lst_nt hh) Mu
          exact q2 ω2 σ _ g3 rfl s3
        | _ => exact q2.elim
      | dct l =>
        dsimp only at q2
        cases em : keyOf q' with
        | none => rw [em] at q2; exact q2.elim
        | some m =>
        rw [em] at q2
        dsimp only at q2
        by_cases hz : l.length < line
        case neg => rw [if_neg hz] at q2; exact q2.elim
        rw [if_pos hz] at q2
        obtain ⟨vs, hh, rl⟩ := s2.sto.obj n b _ hb en
        have hz2 : vs.length < sizeLine := by rw [rl.1, ← line_eq]; exact hz
        refine .inr ⟨b, _, rfl, by rw [key_of r2 em]; exact DPut.k hh hz2, ?_⟩
        obtain ⟨s3, g3⟩ := s2.chgSto (o := .dK (putK vs m v)) (d := .dct (dput l m d)) hb ⟨putK vs m v, upd_same, (rl.put r1').chg (hbar _) fun _ _ => upd_ptu (dK_nt hh)⟩ (dK_nt hh) Mu
        exact q2 ω2 σ _ g3 rfl s3
      | _ => exact q2.elim
  | _ =>
    have hr : ∃ w, σ[i]? = some (some w) := by
      by_cases hio : i ∈ own
      · rcases s1.osl i _ eo hio with ⟨A, hσ, hw, ho⟩ | ⟨hm, w, hσ, hr⟩
        · exact ⟨_, hσ⟩
        · exact ⟨w, hσ⟩
      · obtain ⟨w, hσ, _⟩ := s1.slot i _ eo hio
        exact ⟨w, hσ⟩
    obtain ⟨w, hσ⟩ := hr
    refine ⟨w, hσ, ω1, δ, S1, s1, sG_bind q1 fun ω2 u H2 q' S2 g2 s2 r2 q2 => ?_⟩
    unfold setObF at q2
    exact q2.elim
/-! ### o[k], y = e -/
def obTF (i j : Nat) (g : En → M D) (δ : En) (d : D) : M Fl := match d with
  | .tup [a, b] => do
    let o ← getV δ i
    let q ← g δ
    match ← setObF o q a δ with
    | .nx δ' => do pure (.nx (← M.ofO (bindT (.nm j) b δ')))
    | _ => M.no
  | _ => M.no
theorem rs_obT {py pz pt : Pos} {y : Str} {j kt : Nat} (hN : X.N[i]? = some x) (hv : Vis X.env.scope x) (hd : (x == ("__debug__" : Str)) = false) (hcd : (x == ("__classdict__" : Str)) = false) (hun : X.A.units + 128 < cLine) (hcalm : X.calm = true)
    (hnd : X.N.Nodup) (hj : X.N[j]? = some y) (hy : Loc X.env.scope y) (hf : X.fn y = true ∨ X.env.scope.names.lookup y = some .local) (hjo : j ∉ own)
    (he : PE X e (tE X.K cl own false f)) (hk : PE X k (tE X.K cl own true g)) (hse : okSw e = true) (hst : swappedStores [.Tuple [.Subscript (.Name x py) k p, .Name y pz] kt pt] e X.env = pure none)
    (ha : ∀ v, assign (.Subscript (.Name x py) k p) X.env v = (do
      let ov ← holding [v] (eval (.Name x py) X.env)
      let iv ← holding [v, ov] (eval k X.env)
      standAt p
      holding [v, ov, iv] (setItem ov iv v)
      release [v, ov, iv] [])) :
    PS X (.Assign [.Tuple [.Subscript (.Name x py) k p, .Name y pz] kt pt] e pos) (tS X.K cl own nw Mu fun δ => do
      let d ← f δ
      obTF i j g δ d) := by
  refine (ps_asg he (pg_tup hcalm (pgs_cons (pg_sub (pe_var hN hv hd hcd) hk (pset_or set_list (set_dict (by omega))) ha) (pgs_cons (pg_name hnd hj hy hf) pgs_nil))) (sws_none hse) hst rfl).imp fun D σ H ⟨ω, δ, S, s, q⟩ => ⟨ω, δ, S, s, sG_bind q fun ω1 v H1 d S1 g1 s1 r1 q1 => ?_⟩
  unfold obTF at q1
  cases d with
  | tup ds =>
    match ds, r1, q1 with
    | [d1, d2], r1, q1 =>
      obtain ⟨A, vs, rfl, hA, rl⟩ := Rep.seqT r1
      have hlen := rl.1
      match vs, hlen, rl, hA with
      | [v1, v2], _, rl, hA =>
        refine ⟨A, [v1, v2], rfl, hA, rfl, v1, [v2], rfl, ?_⟩
        dsimp only at q1
        rw [M.bind_run] at q1
        unfold getV at q1
        cases eo : δ[i]? with
        | none => rw [eo] at q1; exact q1.elim
        | some oo =>
        cases oo with
        | none => rw [eo] at q1; exact q1.elim
        | some o =>
        rw [eo] at q1
        simp only [M.pure_run] at q1
        have hw : ∃ w, σ[i]? = some (some w) ∧ RepB X.K cl ω1 H1 w o := by
          by_cases hio : i ∈ own
          · rcases s1.osl i _ eo hio with ⟨B, hσ, hw, ho⟩ | ⟨hm, w, hσ, hr⟩
            · exact ⟨_, hσ, .inr ⟨B, i, rfl, hw, ho⟩⟩
            · exact ⟨w, hσ, .inl hr⟩
          · obtain ⟨w, hσ, hr⟩ := s1.slot i _ eo hio
            exact ⟨w, hσ, .inl hr⟩
        obtain ⟨w, hσ, hr⟩ := hw
        refine ⟨w, hσ, ω1, δ, S1, s1, sG_bind q1 fun ω2 u H2 q' S2 g2 s2 r2 q2 => ?_⟩
        have hr2 := hr.go g2 s1.wok
        have ra := (rl.go g2.st).head
        have rb := (rl.go g2.st).tail.head
        rw [M.bind_run] at q2
        unfold setObF at q2
        cases o with
        | obj n =>
          dsimp only at q2
          have hr3 : Rep X.K cl ω2 H2 w (.obj n) := by
            rcases hr2 with z | ⟨_, _, _, _, z⟩
            · exact z
            · exact z.elim
          cases hr3 with
          | @obj b _ hb =>
            have hbar : ∀ ob, ∀ c ob', H2 c = some ob' → ¬ ω2.bar c → upd H2 b ob c = some ob' := fun ob => upd_bar (.inl (List.mem_of_getElem? hb))
            have fin : ∀ {ω3 : Wd} {H3 : Hp} {S3 : Sto}, GoS Mu ω2 H2 ω3 H3 → ω3.av = ω2.av → SR X.K cl own ω3 σ H3 δ S3 → Rep X.K cl ω3 H3 v2 d2 → sG X.K cl own nw Mu ω2 H2 D ((do pure (.nx (← M.ofO (bindT (.nm j) d2 δ))) : M Fl) S3) → gCons (gName j) gNil [v2] σ H3 D.nx := fun {ω3 H3 S3} g3 a3 s3 r3 q3 => by
              refine ⟨v2, [], rfl, rfl, ?_⟩
              rw [M.bind_run] at q3
              unfold bindT at q3
              by_cases hl : j < δ.length
              · rw [if_pos hl] at q3
                exact q3 ω3 _ H3 g3 a3 (s3.set r3 hjo hl)
              · rw [if_neg hl] at q3
                exact q3.elim
            have q2' := q2
            cases en : S2[n]? with
            | none => rw [en] at q2; exact q2.elim
            | some d' =>
            rw [en] at q2
            cases d' with
            | lst l =>
              cases q' with
              | int z =>
                dsimp only at q2
                cases em : ixOf l.length z with
                | none => rw [em] at q2; exact q2.elim
                | some m =>
                rw [em] at q2
                dsimp only at q2
                obtain ⟨vs, hh, rl2⟩ := s2.sto.obj n b _ hb en
                refine .inl ⟨b, vs, z, m, rfl, RepB.int r2, hh, by rw [rl2.1]; exact em, ?_⟩
                obtain ⟨s3, g3⟩ := s2.chgSto (o := .lst (vs.set m v1)) (d := .lst (l.set m d1)) hb ⟨vs.set m v1, upd_same, (rl2.set ra m).chg (hbar _) fun _ _ => upd_ptu (lst_nt hh)⟩ (lst_nt hh) Mu
                exact fin g3 rfl s3 (rb.chg (hbar _) fun _ _ => upd_ptu (lst_nt hh)) q2
              | _ => exact q2.elim
            | dct l =>
              dsimp only at q2
              cases em : keyOf q' with
              | none => rw [em] at q2; exact q2.elim
              | some m =>
              rw [em] at q2
              dsimp only at q2
              by_cases hz : l.length < line
              case neg => rw [if_neg hz] at q2; exact q2.elim
              rw [if_pos hz] at q2
              dsimp only at q2
              obtain ⟨vs, hh, rl2⟩ := s2.sto.obj n b _ hb en
              have hz2 : vs.length < sizeLine := by rw [rl2.1, ← line_eq]; exact hz
              refine .inr ⟨b, _, rfl, by rw [key_of r2 em]; exact DPut.k hh hz2, ?_⟩
              obtain ⟨s3, g3⟩ := s2.chgSto (o := .dK (putK vs m v1)) (d := .dct (dput l m d1)) hb ⟨putK vs m v1, upd_same, (rl2.put ra).chg (hbar _) fun _ _ => upd_ptu (dK_nt hh)⟩ (dK_nt hh) Mu
              exact fin g3 rfl s3 (rb.chg (hbar _) fun _ _ => upd_ptu (dK_nt hh)) q2
            | _ => exact q2.elim
        | _ => exact q2.elim
    | [], _, q1 => exact q1.elim
    | [_], _, q1 => exact q1.elim
    | _ :: _ :: _ :: _, _, q1 => exact q1.elim
  | _ => exact q1.elim
/-! ### x.append(e) -/
theorem few_one {e : Expr} {env : Env} {cpos : Pos} (h : okShape e = true) : ((backTo cpos (starEach [e] env)).all (fun x => !x.1) && (backToKw cpos (keywordEach [] env)).all (fun x => x.1.isSome)
      && decide (([e] : List Expr).length + ([] : List Keyword).length + (if ([] : List Keyword).isEmpty then 0 else 1) < 30)) = true := by
  cases e <;> first | rfl | cases h
theorem rs_app {py : Pos} (hN : X.N[i]? = some x) (hv : Vis X.env.scope x) (hd : (x == ("__debug__" : Str)) = false) (hcd : (x == ("__classdict__" : Str)) = false) (hio : i ∈ own) (hi : i ∈ Mu)
    (he : PE X e (tE X.K cl own false f)) (hs : okShape e = true) (hline : (apos.endLine == p.line) = true) :
    PS X (.Expr (.Call (.Attribute (.Name x py) "append" apos) [e] [] p) pos) (tS X.K cl own nw Mu fun δ => do
      let o ← getV δ i
      let v ← f δ
      appF i o v δ) := by
  refine (ps_expr (pe_bm PySem.F.plainAttrs_list PySem.F.slot_list_append PySem.F.type_list_append mt_append (pe_var hN hv hd hcd) (pa_cons he pa_nil (shape_star hs)) rfl (few_one hs) hline (shape_star hs) (noStar rfl)) rfl).imp fun D σ H ⟨ω, δ, S, s, q⟩ => ?_
  dsimp only at q
  rw [M.bind_run] at q
  unfold getV at q
  cases eo : δ[i]? with
  | none => rw [eo] at q; exact q.elim
  | some oo =>
  cases oo with
  | none => rw [eo] at q; exact q.elim
  | some o =>
  rw [eo] at q
  simp only [M.pure_run] at q
  have hl := len_of eo
  rcases s.osl i o eo hio with ⟨A, hσ, hw, ho⟩ | ⟨hm, w, hσ, hr⟩
  case inr =>
    exfalso
    rw [M.bind_run] at q
    cases e : f δ S with
    | exc _ _ => rw [e] at q; exact q.elim
    | no => rw [e] at q; exact q.elim
    | ok d S' =>
      rw [e] at q
      dsimp only at q
      unfold appF at q
      cases o <;> first | exact q.elim | exact absurd hm (by simp [RF.D.imm])
  cases o with
  | lst l =>
    obtain ⟨vs, hh, rl⟩ := ho
    refine ⟨.ref A, hσ, .inl ⟨rfl, vs, SqL.of hh⟩, ω, δ, S, s, sG_bind q fun ω1 v H1 d S1 g1 s1 r1 q1 => ?_⟩
    unfold appF at q1
    dsimp only at q1
    by_cases hz : l.length < line
    case neg => rw [if_neg hz] at q1; exact q1.elim
    rw [if_pos hz] at q1
    have hw2 : ω1.ow i = some A := by rw [g1.eq]; exact hw
    have hh1 : H1 A = some (.lst vs) := g1.st.keep A _ hh (s.wok.ow i A hw).2.1 fun _ z => nomatch z
    refine ⟨A, vs, v, rfl, rfl, hh1, by rw [rl.1, ← line_eq]; exact hz, ?_⟩
    have hbar := upd_bar (H := H1) (o := .lst (vs ++ [v])) (p := A) (ω := ω1) (.inr (.inl ⟨i, hw2⟩))
    obtain ⟨s3, g3⟩ := s1.chgOwn (o := .lst (vs ++ [v])) (d := .lst (l ++ [d])) hio hσ hw2 ⟨vs ++ [v], upd_same, ((rl.go g1.st).append (RepL.cons r1 RepL.nil)).chg hbar fun _ _ => upd_ptu (lst_nt hh1)⟩ (lst_nt hh1) hl
    exact q1 ω1 σ _ (g3.mono fun j hj => by simp at hj; rw [hj]; exact hi) rfl s3
  | dct l =>
    exfalso
    rw [M.bind_run] at q
    cases e : f δ S with
    | exc _ _ => rw [e] at q; exact q.elim
    | no => rw [e] at q; exact q.elim
    | ok d S' => rw [e] at q; exact q.elim
  | ins c l =>
    exfalso
    rw [M.bind_run] at q
    cases e : f δ S with
    | exc _ _ => rw [e] at q; exact q.elim
    | no => rw [e] at q; exact q.elim
    | ok d S' => rw [e] at q; exact q.elim
  | _ => exact ho.elim
end
end RF
end
section
set_option linter.all false
set_option maxRecDepth 100000
set_option maxHeartbeats 4000000
set_option autoImplicit false
/-! RfSnd15: a, b = x, y; loops. -/
namespace RF
open PySem PySem.Spec L2
open PyProof.Rows hiding St

/-! ### a, b = x, y -/
def setV : L2.St → List Nat → List V → L2.St
  | σ, i :: is, v :: vs => setV (σ.set i (some v)) is vs
  | σ, _, _ => σ
section
variable {K : PySem.W.Frag} {cl : Nat → Addr} {own : List Nat}
theorem NewL.as {ω ω' : Wd} {H : Hp} {ks : List Bool} {vs : List V} {ds : List D} {as : List Addr} (r : NewL K cl ω H ks vs ds as) (e1 : ω'.rho = ω.rho) (e2 : ∀ b, ω'.bar b → ω.bar b) : NewL K cl ω' H ks vs ds as := by
  induction r with
  | nil => exact .nil
  | giv r t ih => exact .giv (r.as e1 e2) ih
  | own o t ih => exact .own (o.as e1 e2) ih
theorem SR.setMany {H : Hp} {S : Sto} {ks : List Bool} {vs : List V} {ds : List D} {as : List Addr} : ∀ {ω : Wd} {σ : L2.St} {δ δ' : En} {is : List Nat}, NewL K cl ω H ks vs ds as → SR K cl own ω σ H δ S → ks = is.map (fun i => decide (i ∈ own)) → (∀ a ∈ as, ω.av a) → as.Nodup → RF.setMany is ds δ = some δ' →
    ∃ ω', SR K cl own ω' (setV σ is vs) H δ' S ∧ ω'.rho = ω.rho ∧ (∀ b, ω'.av b ↔ ω.av b ∧ b ∉ as) ∧ ∀ j b, ω'.ow j = some b → ω.ow j = some b ∨ b ∈ as := by
  induction ks generalizing vs ds as with
  | nil =>
    intro ω σ δ δ' is r s hk ha hn h
    cases r
    cases is with
    | nil =>
      cases h
      exact ⟨ω, s, rfl, fun b => by simp, fun j b z => .inl z⟩
    | cons i is => cases hk
  | cons k ks ih =>
    intro ω σ δ δ' is r s hk ha hn h
    cases is with
    | nil => cases hk
    | cons i is =>
      rw [List.map_cons, List.cons.injEq] at hk
      cases r with
      | @giv _ v vs d ds as r t =>
        have hi : i ∉ own := fun z => by have := hk.1; simp [z] at this
        unfold RF.setMany at h
        by_cases hl : i < δ.length
        · rw [if_pos hl] at h
          exact ih (vs := vs) (ds := ds) (as := as) (σ := σ.set i (some v)) (is := is) t (s.set r hi hl) hk.2 ha hn h
        · rw [if_neg hl] at h; cases h
      | @own _ a vs d ds as o t =>
        have hi : i ∈ own := by have := hk.1; simpa using this.symm
        unfold RF.setMany at h
        rw [List.nodup_cons] at hn
        by_cases hl : i < δ.length
        · rw [if_pos hl] at h
          have hA := ha a (by simp)
          obtain ⟨ω', s', e1, e2, e3⟩ := ih (vs := vs) (ds := ds) (as := as) (σ := σ.set i (some (.ref a))) (is := is) (t.as (ω' := ω.take i a) rfl fun b z => Wd.take_bar hA z) (s.setOwn hA o hi hl) hk.2 (fun b hb => ⟨ha b (List.mem_cons_of_mem _ hb), fun z => hn.1 (z ▸ hb)⟩) hn.2 h
          refine ⟨ω', s', e1, fun b => ?_, fun j b z => ?_⟩
          · rw [e2]
            show (ω.av b ∧ b ≠ a) ∧ b ∉ as ↔ ω.av b ∧ b ∉ a :: as
            simp only [List.mem_cons, not_or, ne_eq, and_assoc]
          · rcases e3 j b z with z | z
            · have z' : (if j = i then some a else ω.ow j) = some b := z
              by_cases e : j = i
              · rw [if_pos e] at z'; cases z'
                exact .inr (by simp)
              · rw [if_neg e] at z'
                exact .inl z'
            · exact .inr (List.mem_cons_of_mem _ z)
        · rw [if_neg hl] at h; cases h
end
section
variable {K : PySem.W.Frag} {cl : Nat → Addr} {own : List Nat} {nw : Bool} {Mu : List Nat} {X : Cx} {a b c e tg iter k : Expr} {st : Stmt} {rest body orelse : List Stmt} {pos p p2 apos px py pz pt pt2 : Pos} {f g : En → M D} {t : En → M Bool} {fs gs : En → M Fl} {ls : En → M (List D)} {T : Tg} {i j l : Nat} {x y z : Str}
theorem par_ok {ω : Wd} {H : Hp} {σ : L2.St} {δ : En} {S : Sto} {Dn : Ends} {is : List Nat} (s : SR K cl own ω σ H δ S) (q : sG K cl own nw Mu ω H Dn ((do
      let ds ← ls δ
      pure (.nx (← M.ofO (RF.setMany is ds δ))) : M Fl) S)) (Q : List V → Hp → Prop) (hQ : ∀ vs H', vs.length = is.length → Dn.nx (setV σ is vs) H' → Q vs H') : tN K cl own (is.map fun i => decide (i ∈ own)) ls σ H Q := by
  refine ⟨ω, δ, S, s, ?_⟩
  rw [M.bind_run] at q
  cases e : ls δ S with
  | exc _ _ => rw [e] at q; exact q.elim
  | no => rw [e] at q; exact q.elim
  | ok ds S' =>
    rw [e] at q
    intro ω' vs as H' n s' r
    dsimp only at q
    rw [M.bind_run] at q
    cases e2 : RF.setMany is ds δ with
    | none => rw [e2] at q; exact q.elim
    | some δ' =>
      rw [e2] at q
      obtain ⟨ω2, s2, h1, h2, h3⟩ := SR.setMany r s' rfl (fun a ha => (n.av a).mpr (.inr ha)) n.nd e2
      have hv : vs.length = is.length := by
        have : ∀ {ks : List Bool} {vs : List V} {ds : List D} {as : List Addr}, NewL K cl ω' H' ks vs ds as → vs.length = ks.length := by
          intro ks vs ds as r
          induction r with
          | nil => rfl
          | giv _ _ ih => simp [ih]
          | own _ _ ih => simp [ih]
        rw [this r, List.length_map]
      refine hQ vs H' hv (q ω2 _ H' ⟨fun m b z => by rw [h1]; exact n.st.pre m b z, fun b o h n' _ => n.st.keep b o h n' (fun _ z => nomatch z), n.st.tup, fun b h n' => by rw [h1]; exact n.st.new b h n', fun m b z => ?_, fun b z => ?_, n.st.dom⟩ (funext fun b => propext ?_) s2)
      · rcases h3 m b z with z | z
        · rw [n.eq] at z; exact .inl z
        · exact .inr (n.new b z)
      · rcases (n.av b).mp ((h2 b).mp z).1 with z | z
        · exact .inl z
        · exact .inr (.inl (n.new b z))
      · rw [h2, n.av]
        constructor
        · rintro ⟨z | z, y⟩
          · exact z
          · exact absurd z y
        · exact fun z => ⟨.inl z, fun y => (s.wok.av b z).1 (n.new b y)⟩
/-- the values of a pair or of three are stored name by name, from the right -/
theorem sw_names2 (hk : X.env.scope.kind = .function) (hx : X.env.scope.names.lookup x = some .local) (hy : X.env.scope.names.lookup y = some .local) (hxy : (x == y) = false) (hl : (py.line == px.line) = true) {k1 k2 : Nat}
    (hs : [a, b].all okShape = true) (h1 : [a, b].all (foldedForSure 8) = false) (h2 : [a, b].all (constantsAlone 8) = false) :
    swappedStores [.Tuple [.Name x px, .Name y py] k1 pt] (.Tuple [a, b] k2 pt2) X.env = pure (some [x, y]) := by
  have kx : X.env.kindOf x = some .local := hx
  have ky : X.env.kindOf y = some .local := hy
  have hb : X.env.blockKind = .function := by unfold Env.blockKind; rw [hk]; rfl
  have oa : okShape a = true := by simp at hs; exact hs.1
  have ob : okShape b = true := by simp at hs; exact hs.2
  have hne : x ≠ y := by simpa using hxy
  have hl' : py.line = px.line := by simpa using hl
  have hd : ([x, y] : List Str).eraseDups.length = 2 := by
    simp [List.eraseDups_cons, Ne.symm hne]
  unfold swappedStores
  simp only [hb, h1, h2, Expr.pos]
  simp [List.filterMap_cons, kx, ky, hl', hd]
  intro h
  rcases h with h | h
  · cases a <;> first | (cases oa; done) | cases h
  · cases b <;> first | (cases ob; done) | cases h
theorem sw_names3 (hk : X.env.scope.kind = .function) (hx : X.env.scope.names.lookup x = some .local) (hy : X.env.scope.names.lookup y = some .local) (hz : X.env.scope.names.lookup z = some .local) (hxy : (x == y) = false) (hxz : (x == z) = false) (hyz : (y == z) = false)
    (hl : (py.line == px.line) = true) (hl2 : (pz.line == px.line) = true) {k1 k2 : Nat}
    (hs : [a, b, c].all okShape = true) (h1 : [a, b, c].all (foldedForSure 8) = false) (h2 : [a, b, c].all (constantsAlone 8) = false) :
    swappedStores [.Tuple [.Name x px, .Name y py, .Name z pz] k1 pt] (.Tuple [a, b, c] k2 pt2) X.env = pure (some [x, y, z]) := by
  have kx : X.env.kindOf x = some .local := hx
  have ky : X.env.kindOf y = some .local := hy
  have kz : X.env.kindOf z = some .local := hz
  have hb : X.env.blockKind = .function := by unfold Env.blockKind; rw [hk]; rfl
  have oa : okShape a = true := by simp at hs; exact hs.1
  have ob : okShape b = true := by simp at hs; exact hs.2.1
  have oc : okShape c = true := by simp at hs; exact hs.2.2
  have hne : x ≠ y := by simpa using hxy
  have hne2 : x ≠ z := by simpa using hxz
  have hne3 : y ≠ z := by simpa using hyz
  have hl' : py.line = px.line := by simpa using hl
  have hl2' : pz.line = px.line := by simpa using hl2
  have hd : ([x, y, z] : List Str).eraseDups.length = 3 := by
    simp [List.eraseDups_cons, Ne.symm hne, Ne.symm hne2, Ne.symm hne3]
  unfold swappedStores
  simp only [hb, h1, h2, Expr.pos]
  simp [List.filterMap_cons, kx, ky, kz, hl', hl2', hd]
  intro h
  rcases h with h | h | h
  · cases a <;> first | (cases oa; done) | cases h
  · cases b <;> first | (cases ob; done) | cases h
  · cases c <;> first | (cases oc; done) | cases h
theorem rs_par2 {k1 k2 : Nat} (hc : X.calm = true) (hN : X.N.Nodup) (hi : X.N[i]? = some x) (hj : X.N[j]? = some y) (hij : i ≠ j) (hk : X.env.scope.kind = .function) (hx : X.env.scope.names.lookup x = some .local) (hy : X.env.scope.names.lookup y = some .local)
    (hl : (py.line == px.line) = true) (hs : [a, b].all okShape = true) (h1 : [a, b].all (foldedForSure 8) = false) (h2 : [a, b].all (constantsAlone 8) = false)
    (ha : PA X [a, b] (tN K cl own ([i, j].map fun i => decide (i ∈ own)) ls)) : PS X (.Assign [.Tuple [.Name x px, .Name y py] k1 pt] (.Tuple [a, b] k2 pt2) pos) (tS K cl own nw Mu fun δ => do
      let ds ← ls δ
      pure (.nx (← M.ofO (RF.setMany [i, j] ds δ)))) := by
  have hxy : (x == y) = false := by
    refine beq_eq_false_iff_ne.mpr fun z => hij ?_
    subst z
    have l1 : i < X.N.length := (List.getElem?_eq_some_iff.mp hi).1
    exact (List.getElem?_inj l1 hN).mp (hi.trans hj.symm)
  refine (ps_par hc hN hi hj hij hx hy ha (sw_names2 hk hx hy hxy hl hs h1 h2)).imp fun D σ H ⟨ω, δ, S, s, q⟩ => ?_
  refine par_ok s q _ fun vs H' hv hd => ?_
  match vs, hv with
  | [v, w], _ => exact ⟨v, w, rfl, hd⟩
theorem rs_par3 {k1 k2 : Nat} (hc : X.calm = true) (hN : X.N.Nodup) (hi : X.N[i]? = some x) (hj : X.N[j]? = some y) (hl : X.N[l]? = some z) (hij : i ≠ j) (hil : i ≠ l) (hjl : j ≠ l) (hk : X.env.scope.kind = .function) (hx : X.env.scope.names.lookup x = some .local) (hy : X.env.scope.names.lookup y = some .local) (hz : X.env.scope.names.lookup z = some .local)
    (hl1 : (py.line == px.line) = true) (hl2 : (pz.line == px.line) = true) (hs : [a, b, c].all okShape = true) (h1 : [a, b, c].all (foldedForSure 8) = false) (h2 : [a, b, c].all (constantsAlone 8) = false)
    (ha : PA X [a, b, c] (tN K cl own ([i, j, l].map fun i => decide (i ∈ own)) ls)) : PS X (.Assign [.Tuple [.Name x px, .Name y py, .Name z pz] k1 pt] (.Tuple [a, b, c] k2 pt2) pos) (tS K cl own nw Mu fun δ => do
      let ds ← ls δ
      pure (.nx (← M.ofO (RF.setMany [i, j, l] ds δ)))) := by
  have nn : ∀ {i j : Nat} {x y : Str}, X.N[i]? = some x → X.N[j]? = some y → i ≠ j → (x == y) = false := fun hi hj hij => by
    refine beq_eq_false_iff_ne.mpr fun z => hij ?_
    subst z
    exact (List.getElem?_inj (List.getElem?_eq_some_iff.mp hi).1 hN).mp (hi.trans hj.symm)
  refine (ps_par3 hc hN hi hj hl hij hil hjl hx hy hz ha (sw_names3 hk hx hy hz (nn hi hj hij) (nn hi hl hil) (nn hj hl hjl) hl1 hl2 hs h1 h2)).imp fun D σ H ⟨ω, δ, S, s, q⟩ => ?_
  refine par_ok s q _ fun vs H' hv hd => ?_
  match vs, hv with
  | [u, v, w], _ => exact ⟨u, v, w, rfl, hd⟩
/-! ### loops -/
theorem rs_for {itf : En → M (List D)} (hp : PassesOwn (model X.prog X.w) X.A X.env X.xe) (hc : X.calm = true) (hi : PI X tg iter (tI K cl own Mu itf)) (hg : PG X tg (tGt K cl own T)) (hb : PSs X body (tS K cl own nw Mu fs)) (hs : okShape iter = true) :
    PS X (.For tg iter body [] pos) (tS K cl own nw Mu fun δ => do
      let items ← itf δ
      forL (fun d δ' => do
        let δ'' ← M.ofO (bindT T d δ')
        fs δ'') items δ) := by
  refine (ps_for hp hc hi hg hb (shape_fold hs _)).imp fun Dn σ H ⟨ω, δ, S, s, q⟩ => ⟨ω, δ, S, s, ?_⟩
  dsimp only at q
  rw [M.bind_run] at q
  cases e : itf δ S with
  | exc _ _ => rw [e] at q; exact q.elim
  | no => rw [e] at q; exact q.elim
  | ok items S1 =>
    rw [e] at q
    intro ω1 H1 J g1 s1 ⟨G, Y, wk, hG, hY⟩
    dsimp only at q
    generalize hF : (fun d δ' => M.ofO (bindT T d δ') >>= fun δ'' => fs δ'') = F at q
    have q1 := sG.go q (g1.s Mu) g1.ea
    refine for_it wk (fun i σ3 H3 => ∃ ω3 δ3 S3, GoS Mu ω1 H1 ω3 H3 ∧ ω3.av = ω1.av ∧ SR K cl own ω3 σ3 H3 δ3 S3 ∧ sG K cl own nw Mu ω3 H3 Dn (forL F (items.drop i) δ3 S3)) ?_ ?_ ?_ ?_
    · exact ⟨ω1, δ, S1, GoS.refl _ _ _, rfl, s1, q1⟩
    · rintro i σ3 H3 _ ⟨ω3, δ3, S3, g3, _⟩
      exact hG ω3 H3 g3
    · rintro i x σ3 H3 H4 hlt ⟨ω3, δ3, S3, g3, a3, s3, q3⟩ y
      obtain ⟨hh, d, hd, rd⟩ := hY i ω3 H3 x H4 hlt g3 s3.wok y
      have edrop : items.drop i = d :: items.drop (i + 1) := by
        rw [List.drop_eq_getElem_cons hlt]
        rw [List.getElem?_eq_getElem hlt] at hd
        cases hd
        rfl
      have k3 : Go ω3 H3 ω3 H4 ∧ SR K cl own ω3 σ3 H4 δ3 S3 := by
        rcases hh with rfl | ⟨T, o, hT, rfl⟩
        · exact ⟨Go.refl _ _, s3⟩
        · exact ⟨Go.upd' _ hT, s3.upd hT⟩
      obtain ⟨gy, sy⟩ := k3
      have q4 := sG.go q3 (gy.s Mu) gy.ea
      rw [edrop] at q4
      unfold forL at q4
      rw [M.bind_run, ← hF] at q4
      dsimp only at q4
      rw [M.bind_run] at q4
      refine ⟨ω3, δ3, S3, d, sy, rd, ?_⟩
      cases eb : bindT T d δ3 with
      | none => rw [eb] at q4; exact q4.elim
      | some δ4 =>
      rw [eb] at q4
      intro σ4 s4 _
      refine ⟨ω3, δ4, S3, s4, ?_⟩
      rw [show M.ofO (some δ4) S3 = Out.ok δ4 S3 from rfl] at q4
      dsimp only at q4
      cases ef : fs δ4 S3 with
      | exc _ _ => rw [ef] at q4; exact q4.elim
      | no => rw [ef] at q4; exact q4.elim
      | ok fl S5 =>
        rw [ef] at q4
        cases fl with
        | nx δ5 =>
          intro ω5 σ5 H5 g5 a5 s5
          dsimp only at q4
          rw [hF] at q4
          exact ⟨ω5, δ5, S5, (g3.trans (gy.s Mu)).trans g5, a5.trans a3, s5, sG.go q4 g5 a5⟩
        | bk δ5 => exact fun ω5 σ5 H5 g5 a5 s5 => q4 ω5 σ5 H5 g5 a5 s5
        | rt v => exact q4
    · rintro σ3 H3 ⟨ω3, δ3, S3, g3, a3, s3, q3⟩
      rw [List.drop_length] at q3
      exact sG.nx q3 s3
theorem rs_while {fuel : Nat} (hp : PassesOwn (model X.prog X.w) X.A X.env X.xe) (hc : PT X c (tT K cl own t)) (hb : PSs X body (tS K cl own nw Mu fs)) : PS X (.While c body [] pos) (tS K cl own nw Mu fun δ => whlL t fs fuel δ) := by
  refine (ps_while hp hc hb).imp fun Dn σ H ⟨ω, δ, S, s, q⟩ => ?_
  refine ⟨fun m σ3 H3 => ∃ ω3 δ3 S3, SR K cl own ω3 σ3 H3 δ3 S3 ∧ sG K cl own nw Mu ω3 H3 Dn (whlL t fs m δ3 S3), ⟨fuel, ω, δ, S, s, q⟩, ?_⟩
  rintro m σ3 H3 ⟨ω3, δ3, S3, s3, q3⟩
  cases m with
  | zero => exact q3.elim
  | succ m =>
    unfold whlL at q3
    refine ⟨ω3, δ3, S3, s3, sG_bind q3 fun ω4 k H4 k' S4 g4 s4 r4 q4 => ?_⟩
    subst r4
    cases k with
    | false => exact sG.nx q4 s4
    | true =>
      simp only [if_true] at q4 ⊢
      refine ⟨fun σ' H' => ∃ ω3 δ3 S3, SR K cl own ω3 σ' H' δ3 S3 ∧ sG K cl own nw Mu ω3 H' Dn (whlL t fs m δ3 S3), fun σ' H' z => ⟨m, Nat.lt_succ_self m, z⟩, ω4, δ3, S4, s4, ?_⟩
      rw [M.bind_run] at q4
      cases ef : fs δ3 S4 with
      | exc _ _ => rw [ef] at q4; exact q4.elim
      | no => rw [ef] at q4; exact q4.elim
      | ok fl S5 =>
        rw [ef] at q4
        cases fl with
        | nx δ5 => exact fun ω5 σ5 H5 g5 a5 s5 => ⟨ω5, δ5, S5, s5, sG.go q4 g5 a5⟩
        | bk δ5 => exact fun ω5 σ5 H5 g5 a5 s5 => q4 ω5 σ5 H5 g5 a5 s5
        | rt v => exact q4
end
end RF
end
section
set_option linter.all false
set_option maxRecDepth 100000
set_option maxHeartbeats 4000000
set_option autoImplicit false
/-! RfSnd16: calls that answer with something new; from a body to a def's promise. -/
namespace RF
open PySem PySem.Spec L2
open PyProof.Rows hiding St

section
variable (K : PySem.W.Frag) (cl : Nat → Addr)
def spOfN (ar : Nat) (g : List D → M D) : Sp := fun vs H Q _ => ∃ ω ds S, ω.ow = (fun _ => none) ∧ WOk ω H ∧ StoOk K cl ω H S ∧ vs.length = ar ∧ RepL K cl ω H vs ds ∧ (match g ds S with
  | .ok d S' => ∀ ω' a H', NewAt ω H ω' H' [a] → WOk ω' H' → StoOk K cl ω' H' S' → Own K cl ω' H' a d → Q (.ref a) H'
  | _ => False)
end
section
variable {X : Cx} {k : Nat} {f : Addr} {fd : FuncData} {ps : List Str} {sp : Sp} {K : PySem.W.Frag} {cl : Nat → Addr} {own : List Nat} {b : Bool}
theorem sp_ofN {ω : Wd} {H : Hp} {σ : L2.St} {δ : En} {S : Sto} {Q : VK} {ar : Nat} {g : List D → M D} {vs : List V} {ds : List D} {E : XK} (s : SR K cl own ω σ H δ S) (hl : vs.length = ar) (r : RepL K cl ω H vs ds)
    (q : nG K cl own ω H σ δ Q (g ds S)) : spOfN K cl ar g vs H Q E := by
  let ωc : Wd := { rho := ω.rho, ow := fun _ => none, av := fun a => ω.av a ∨ ∃ i, ω.ow i = some a }
  have e1 : ∀ a, ωc.bar a → ω.bar a := fun a z => by
    rcases z with z | ⟨i, z⟩ | z | z
    · exact .inl z
    · cases z
    · exact .inr (.inr z)
    · exact .inr (.inl z)
  refine ⟨ωc, ds, S, rfl, ⟨s.wok.nd, s.wok.rho, (fun i a z => nomatch z), (fun i j a z => nomatch z), fun a z => ?_⟩, ⟨s.sto.len, fun n a d h1 h2 => (s.sto.obj n a d h1 h2).as rfl e1⟩, hl, r.as rfl e1, ?_⟩
  · rcases z with z | ⟨i, z⟩
    · exact s.wok.av a z
    · exact ⟨(s.wok.ow i a z).1, (s.wok.ow i a z).2.1⟩
  · cases e : g ds S with
    | exc _ _ => rw [e] at q; exact q.elim
    | no => rw [e] at q; exact q.elim
    | ok d S' =>
      rw [e] at q
      intro ω' a H' n wok sto o
      have eo : ω'.ow = fun _ => none := n.eq
      let ω2 : Wd := { rho := ω'.rho, ow := ω.ow, av := fun b => ω.av b ∨ b = a }
      have e2 : ∀ c, ω2.bar c → ω'.bar c := fun c z => by
        rcases z with z | ⟨i, z⟩ | z | z
        · exact .inl z
        · exact .inr (.inr ((n.av c).mpr (.inl (.inr ⟨i, z⟩))))
        · exact .inr (.inr ((n.av c).mpr (.inl (.inl z))))
        · exact .inr (.inr ((n.av c).mpr (.inr (by simp [z]))))
      have g2 : GoS [] ω H ω2 H' := ⟨n.st.pre, fun c o h nn _ => n.st.keep c o h nn (fun _ z => nomatch z), n.st.tup, n.st.new, fun i c z => .inl z, fun c z => z.elim .inl fun y => .inr (.inl (n.new c (by simp [y]))), n.st.dom⟩
      have n2 : NewAt ω H ω2 H' [a] := ⟨g2, rfl, fun c => by show (ω.av c ∨ c = a) ↔ _; simp, n.nd, n.new⟩
      have wok2 : WOk ω2 H' := by
        refine ⟨wok.nd, wok.rho, fun i c z => ?_, s.wok.inj, fun c z => ?_⟩
        · have h := s.wok.ow i c z
          refine ⟨n.st.dom c h.1, n.st.new c h.1 h.2.1, fun y => ?_⟩
          rcases y with y | y
          · exact h.2.2 y
          · exact h.1 (n.new c (by simp [y]))
        · rcases z with z | z
          · have h := s.wok.av c z
            exact ⟨n.st.dom c h.1, n.st.new c h.1 h.2⟩
          · exact wok.av c ((n.av c).mpr (.inr (by simp [z])))
      have sto2 : StoOk K cl ω2 H' S' := ⟨sto.len, fun m c d h1 h2 => (sto.obj m c d h1 h2).as rfl e2⟩
      exact q ω2 a H' n2 (s.moveS g2 (fun _ _ z => nomatch z) (fun _ _ => rfl) wok2 sto2) (o.as rfl e2)
theorem rn_call {x : Str} {p pos : Pos} {e : Expr} {es : List Expr} {gs : En → M (List D)} {ar : Nat} {g : List D → M D} (F : FnR X.prog X.w X.K X.mg X.base k f fd ps (spOfN X.K cl ar g)) (hr : Room k X.A) (gd : X.A.guards = some []) (hg : Gl X x) (hm : X.mg x = some (.ref f)) (hk : PySem.W.keepIn X.K (.ref f) = true)
    (hb : Binds X.K fd ps []) (hdb : (x == ("__debug__" : Str)) = false) (ha : PA X (e :: es) (tA X.K cl own false gs)) (hs : okShape e = true ∧ es.all okShape = true) (hgl : ∀ δ S ds S', gs δ S = .ok ds S' → ds.length = ar) :
    PE X (.Call (.Name x p) (e :: es) [] pos) (tN1 X.K cl own fun δ => do g (← gs δ)) := by
  refine (pe_callR F hr gd hg hm hk hb ha hdb (shape_star hs.1) (noStar hs.2)).imp fun σ H Q ⟨ω, δ, S, s, q⟩ => ⟨ω, δ, S, s, ?_⟩
  dsimp only at q
  rw [M.bind_run] at q
  cases e : gs δ S with
  | exc _ _ => rw [e] at q; exact q.elim
  | no => rw [e] at q; exact q.elim
  | ok ds S1 =>
    rw [e] at q
    intro ω1 vs H1 g1 s1 r1
    exact sp_ofN s1 (by rw [r1.len]; exact hgl δ S ds S1 e) r1.l (nG.go q g1 s1.wok)
theorem rn_call0 {x : Str} {p pos : Pos} {g : List D → M D} (F : FnR X.prog X.w X.K X.mg X.base k f fd ps (spOfN X.K cl 0 g)) (hr : Room k X.A) (gd : X.A.guards = some []) (hg : Gl X x) (hm : X.mg x = some (.ref f)) (hk : PySem.W.keepIn X.K (.ref f) = true)
    (hb : Binds X.K fd ps []) (hdb : (x == ("__debug__" : Str)) = false) : PE X (.Call (.Name x p) [] [] pos) (tN1 X.K cl own fun δ => do g (← (pure [] : M (List D)))) :=
  (pe_callR0 F hr gd hg hm hk hb hdb).imp fun σ H Q ⟨ω, δ, S, s, q⟩ => sp_ofN s rfl RepL.nil q

/-! ### from a body to a promise -/
theorem start_get {N : List Str} {vs : List V} {ds : List D} {i : Nat} {d : D} (hl : vs.length = ds.length) (h : (ds.map some ++ List.replicate (N.length - ds.length) none)[i]? = some (some d)) : ∃ v, vs[i]? = some v ∧ ds[i]? = some d ∧ (start N vs)[i]? = some (some v) ∧ i < vs.length := by
  by_cases hi : i < ds.length
  · rw [List.getElem?_append_left (by simpa using hi)] at h
    have h2 : ds[i]? = some d := by
      rw [List.getElem?_map] at h
      cases e : ds[i]? with
      | none => rw [e] at h; cases h
      | some x => rw [e] at h; simpa using h
    have hv : i < vs.length := by omega
    refine ⟨vs[i], by simp [hv], h2, ?_, hv⟩
    unfold L2.start
    rw [List.getElem?_append_left (by simpa using hv)]
    simp [hv]
  · rw [List.getElem?_append_right (by simpa using hi)] at h
    rw [List.getElem?_replicate] at h
    split at h <;> cases h
theorem start_sr {N : List Str} {vs : List V} {ds : List D} {ω : Wd} {H : Hp} {S : Sto} (hN : vs.length ≤ N.length) (wok : WOk ω H) (sto : StoOk K cl ω H S) (r : RepL K cl ω H vs ds) (ho : ∀ i ∈ own, vs.length ≤ i) :
    SR K cl own ω (start N vs) H (ds.map some ++ List.replicate (N.length - ds.length) none) S := by
  have hl := r.1
  refine ⟨?_, wok, fun i d h1 h2 => ?_, fun i d h1 h2 => ?_, sto⟩
  · unfold L2.start
    simp [hl]
  · obtain ⟨v, h3, h4, h5, _⟩ := start_get hl h1
    exact ⟨v, h5, r.2 i v d h3 h4⟩
  · obtain ⟨v, _, _, _, h6⟩ := start_get hl h1
    exact absurd (ho i h2) (by omega)
variable {P : Program} {w : World} {mg : Str → Option Value} {base : Heap}
theorem fnr_body {name qual : Str} {params : Arguments} {body : List Stmt} {scope : Scope} {dV kV doc pm cdv ct oc : Value} {an od : Option Addr} {osl : Array (Option Value)} {N : List Str} {F : En → M Fl} {Mu : List Nat}
    (lk : K.lookup f = some ⟨oc, od, .func (PySem.W.fnOf name qual params body scope dV kV doc pm an cdv ct), osl⟩) (hcd : PySem.W.codeIn K cdv qual = true) (Sc : FnScope N ps scope) (ho : ∀ i ∈ own, ps.length ≤ i)
    (hb : ∀ (A : Around) (outer : List Env) (s : Shared) (H : Hp) (E : XK), Room k (A.deeper (envOfC qual scope s.heap.objs.size f cdv)) → (A.deeper (envOfC qual scope s.heap.objs.size f cdv)).guards = some [] →
      PSs (cxOf CX0 P w K mg base N qual scope f cdv A outer s H E).nox body (tS K cl own false Mu F)) :
    FnR P w K mg base (k + 1) f (PySem.W.fnOf name qual params body scope dV kV doc pm an cdv ct) ps (spOf K cl ps.length (runB F N.length)) := by
  refine fnr_of lk hcd Sc (fun vs H Q E ⟨_, _, _, _, _, _, h, _⟩ => h) fun A outer s H vs Q E hr gd hp => ⟨_, hb A outer s H E hr gd, ?_⟩
  obtain ⟨ω, ds, S, eo, wok, sto, hl, r, q⟩ := hp
  have hN : vs.length ≤ N.length := by
    have := congrArg List.length Sc.pre
    rw [List.length_take] at this
    omega
  refine ⟨ω, _, S, start_sr hN wok sto r (by rw [hl]; exact ho), ?_⟩
  unfold runB at q
  rw [M.bind_run] at q
  have go : ∀ (ω' : Wd) (H' : Hp), GoS Mu ω H ω' H' → ω'.av = ω.av → Go ω H ω'.noOw H' := fun ω' H' g ea => by
    refine ⟨⟨g.pre, fun a o h n _ => g.keep a o h n fun i _ z => (by rw [eo] at z; cases z), g.tup, g.new, (fun i a z => nomatch z), fun a z => g.av a z, g.dom⟩, eo.symm, ea⟩
  have hb2 : ∀ (ω' : Wd) b, ω'.noOw.bar b → ω'.bar b := fun ω' b z => by
    rcases z with z | ⟨i, z⟩ | z
    · exact .inl z
    · cases z
    · exact .inr (.inr z)
  cases e : F (ds.map some ++ List.replicate (N.length - ds.length) none) S with
  | exc _ _ => rw [e] at q; exact q.elim
  | no => rw [e] at q; exact q.elim
  | ok fl S' =>
    rw [e] at q
    cases fl with
    | nx δ' =>
      intro ω' σ' H' g ea s'
      have s2 := s'.leave
      exact q ω'.noOw .non H' (go ω' H' g ea) s2.wok s2.sto .non
    | bk δ' => exact q.elim
    | rt d =>
      intro ω' v H' g ea eo' wok' sto' r'
      refine q ω'.noOw v H' (go ω' H' g ea) ⟨wok'.nd, wok'.rho, (fun i a z => nomatch z), (fun i j a z => nomatch z), wok'.av⟩ ⟨sto'.len, fun n a d h1 h2 => (sto'.obj n a d h1 h2).as rfl (hb2 ω')⟩ (r'.as rfl (hb2 ω'))
theorem fnn_body {name qual : Str} {params : Arguments} {body : List Stmt} {scope : Scope} {dV kV doc pm cdv ct oc : Value} {an od : Option Addr} {osl : Array (Option Value)} {N : List Str} {F : En → M Fl} {Mu : List Nat}
    (lk : K.lookup f = some ⟨oc, od, .func (PySem.W.fnOf name qual params body scope dV kV doc pm an cdv ct), osl⟩) (hcd : PySem.W.codeIn K cdv qual = true) (Sc : FnScope N ps scope) (ho : ∀ i ∈ own, ps.length ≤ i)
    (hb : ∀ (A : Around) (outer : List Env) (s : Shared) (H : Hp) (E : XK), Room k (A.deeper (envOfC qual scope s.heap.objs.size f cdv)) → (A.deeper (envOfC qual scope s.heap.objs.size f cdv)).guards = some [] →
      PSs (cxOf CX0 P w K mg base N qual scope f cdv A outer s H E).nox body (tS K cl own true Mu F)) :
    FnR P w K mg base (k + 1) f (PySem.W.fnOf name qual params body scope dV kV doc pm an cdv ct) ps (spOfN K cl ps.length (runN F N.length)) := by
  refine fnr_of lk hcd Sc (fun vs H Q E ⟨_, _, _, _, _, _, h, _⟩ => h) fun A outer s H vs Q E hr gd hp => ⟨_, hb A outer s H E hr gd, ?_⟩
  obtain ⟨ω, ds, S, eo, wok, sto, hl, r, q⟩ := hp
  have hN : vs.length ≤ N.length := by
    have := congrArg List.length Sc.pre
    rw [List.length_take] at this
    omega
  refine ⟨ω, _, S, start_sr hN wok sto r (by rw [hl]; exact ho), ?_⟩
  unfold runN at q
  rw [M.bind_run] at q
  cases e : F (ds.map some ++ List.replicate (N.length - ds.length) none) S with
  | exc _ _ => rw [e] at q; exact q.elim
  | no => rw [e] at q; exact q.elim
  | ok fl S' =>
    rw [e] at q
    cases fl with
    | nx δ' => exact q.elim
    | bk δ' => exact q.elim
    | rt d =>
      intro ω' a H' g hn ea eo' wok' sto' o'
      have hnew : H a = none := by
        rcases hn with z | ⟨i, z⟩
        · exact z
        · rw [eo] at z; cases z
      exact q ω' a H' ⟨⟨g.pre, fun a o h n _ => g.keep a o h n fun i _ z => (by rw [eo] at z; cases z), g.tup, g.new, g.own, g.av, g.dom⟩, eo'.trans eo.symm, fun b => by rw [ea]; simp, by simp, fun b z => by simp at z; rw [z]; exact hnew⟩ wok' sto' o'
end
end RF
end
section
set_option linter.all false
set_option maxRecDepth 100000
set_option maxHeartbeats 4000000
set_option autoImplicit false
/-! RfSet: sets of texts; sorted(set(texts)). -/
namespace RF
open PySem PySem.Spec L2
open PyProof.Rows hiding St
theorem is_strX (P : Program) (w : World) (k : Str) (u : Tok) : (strKind P w).is k (.str k u) = true := by
  show Value.isStrOf k (.str k u) = true
  simp [Value.isStrOf]
def keyT (e : Int × Value) : Str := match e.2 with | .str k _ => k | _ => Str.empty
def GoodT (w : World) (e : Int × Value) : Prop := ∃ k tk, e.2 = Value.str k tk ∧ e.1 = hashStr w k

/-- the set of ints at a: S its members, n their number; its table rises and can be walked -/
def SetX (w : World) (h : Heap) (a : Addr) (S : Str → Bool) (n : Nat) : Prop :=
  ∃ o xs pc0 t, h.get? a = some o ∧ o.ExactSet ∧ o.data = .set xs pc0 t ∧ (∀ e ∈ xs.toList, GoodT w e) ∧ (xs.toList.map keyT).Nodup ∧ (∀ k, S k = true ↔ k ∈ xs.toList.map keyT) ∧
    xs.size < scanBound ∧ t.fits xs.size = true ∧ xs.size = n ∧ Ris t.place.toList ∧ (w.params.followText "set-order" = true ∨ t.led = true)

section
variable {P : Program} {w : World}
theorem goodT_elems {l : List (Int × Value)} (gd : ∀ e ∈ l, GoodT w e) : ElemsOf (strKind P w) l := fun e he => by
  obtain ⟨k, tk, h1, h2⟩ := gd e he
  exact ⟨⟨k, by rw [h1]; exact is_strX P w k tk, h2⟩, by rw [h1] <;> rfl⟩
theorem goodT_is {e : Int × Value} (gd : GoodT w e) (k : Str) : (strKind P w).is k e.2 = true ↔ keyT e = k := by
  obtain ⟨k1, tk, h1, _⟩ := gd
  unfold keyT
  rw [h1]
  show ((k1 == k) = true) ↔ k1 = k
  exact beq_iff_eq
theorem goodT_mem {l : List (Int × Value)} (gd : ∀ e ∈ l, GoodT w e) (k : Str) : k ∈ l.map keyT ↔ ∃ e ∈ l, (strKind P w).is k e.2 = true := by
  rw [List.mem_map]
  constructor
  · rintro ⟨e, he, qq⟩
    exact ⟨e, he, (goodT_is (gd e he) k).2 qq⟩
  · rintro ⟨e, he, qq⟩
    exact ⟨e, he, (goodT_is (gd e he) k).1 qq⟩
end
section
variable {P : Program} {w : World} {A : Around} {E : Value → Shared → Prop} {s : Shared} {a : Addr} {S : Str → Bool} {n : Nat}
theorem storeX {h : Heap} {a : Addr} {o : Obj} {xs es' : Array (Int × Value)} {pc0 : Nat} {t t' : SetTable} (hb0 : h.get? a = some o) (hd0 : o.data = .set xs pc0 t) :
    (h.update a (Obj.putSet es' t')).get? a = some { o with data := .set es' (pc0 + 1) t' } := by
  have qq := Heap.get?_update_self (Obj.putSet es' t') hb0 (by rw [putSet_of es' t' hd0]; rfl)
  rw [putSet_of es' t' hd0] at qq
  exact qq

theorem setX_tail {gd : Bool → Sem Unit} (hg : ∀ (b : Bool) (s₁ : Shared) (Q' : Unit → Shared → Prop), Q' () s₁ → wpAny (model P w) A (gd b) Q' E s₁)
    {o : Obj} {xs : Array (Int × Value)} {pc0 : Nat} {t : SetTable} (hb0 : s.heap.get? a = some o) (hx0 : o.ExactSet) (hd0 : o.data = .set xs pc0 t)
    {ys : Array (Int × Value)} {tb2 : SetTable} {S' : Str → Bool} (gd1 : ∀ e ∈ ys.toList, GoodT w e) (nd2 : (ys.toList.map keyT).Nodup) (mm1 : ∀ k, S' k = true ↔ k ∈ ys.toList.map keyT)
    (hbb1 : ys.size < scanBound) (hff2 : tb2.fits ys.size = true) (hrr : Ris tb2.place.toList) (hll : w.params.followText "set-order" = true ∨ tb2.led = true) {wd : Bool} {RR : Option Bool → Shared → Prop}
    (hRR : ∀ h', Heap.SameBut a s.heap h' → SetX w h' a S' ys.size → RR (some true) { s with heap := h' }) :
    wpAny (model P w) A (do
        storeSet a ys tb2
        if (!wd && tb2.tooFull) = true then do
            gd (relayAll tb2 ys (SetTable.grown ys.size)).2.2
            storeSet a (relayAll tb2 ys (SetTable.grown ys.size)).1 (relayAll tb2 ys (SetTable.grown ys.size)).2.1
            pure (some true)
          else pure (some true)) RR E s := by
  refine wpAny_bind (wpAny_storeSet_of hb0 hd0 ?_ (fits_of_scanBound hbb1))
  have hb01 := storeX (es' := ys) (t' := tb2) hb0 hd0
  have sbb1 := Heap.SameBut.update s.heap a (Obj.putSet ys tb2)
  split
  · have pp := relayAll_perm tb2 ys (SetTable.grown ys.size)
    have hff3 := relayAll_fits tb2 ys (SetTable.grown ys.size)
    have hrr3 := relayAll_ris tb2 ys (SetTable.grown ys.size)
    have hll3 := relayAll_led tb2 ys (SetTable.grown ys.size)
    generalize relayAll tb2 ys (SetTable.grown ys.size) = ZZ at pp hff3 hrr3 hll3 ⊢
    obtain ⟨zs, tb3, gv⟩ := ZZ
    dsimp only at pp hff3 hrr3 hll3 ⊢
    have hs1 : zs.size = ys.size := by rw [← Array.length_toList, pp.length_eq, Array.length_toList]
    have hbb2 : zs.size < scanBound := by rw [hs1]; exact hbb1
    refine wpAny_bind (hg _ _ _ ?_)
    refine wpAny_bind (wpAny_storeSet_of hb01 rfl ?_ (fits_of_scanBound hbb2))
    have hb02 := storeX (es' := zs) (t' := tb3) hb01 rfl
    refine wpAny_pure (hRR _ (sbb1.trans (Heap.SameBut.update _ a _)) ?_)
    exact ⟨_, zs, _, tb3, hb02, hx0, rfl, fun e he => gd1 e (pp.mem_iff.mp he), (pp.map keyT).nodup_iff.mpr nd2, fun k => (mm1 k).trans (pp.map keyT).mem_iff.symm, hbb2, hff3, hs1, hrr3,
      hll.imp id fun z => by rw [hll3]; exact z⟩
  · exact wpAny_pure (hRR _ sbb1 ⟨_, ys, _, tb2, hb01, hx0, rfl, gd1, nd2, mm1, hbb1, hff2, rfl, hrr, hll⟩)

theorem setX_hashed {k : Str} {tk : Tok} {Q : Bool → Shared → Prop} (RR : SetX w s.heap a S n) (room : n + 1 < scanBound)
    (hQQ : ∀ h', Heap.SameBut a s.heap h' → SetX w h' a (fun j => S j || decide (j = k)) (if S k = true then n else n + 1) → Q (!S k) { s with heap := h' }) :
    wpAny (model P w) A (setAddHashed a (.str k tk) ((strKind P w).hash k)) Q E s := by
  obtain ⟨o, xs, pc0, t, hb0, hx0, hd0, gd, ndp, hmm, hbb, hff, hnn, hrr, hll⟩ := RR
  have hkey1 : (strKind P w).is k (.str k tk) = true := is_strX P w k tk
  have hsc1 : (Value.str k tk).scannable = true := rfl
  have hel1 : ElemsOf (strKind P w) xs.toList := goodT_elems gd
  unfold setAddHashed setAddHashedIn
  refine wpAny_holding (wpAny_bind (wpAny_setState_of hb0 hd0 hff ?_))
  dsimp only
  rw [byScan_of hsc1 hbb hel1]
  simp only [↓reduceIte]
  unfold setAddByScan
  refine wpAny_bind ?_
  refine wpAny_bind (wpAny_rule ?_)
  refine wpAny_bind (wpAny_setScan_of hkey1 hb0 hd0 hff hel1 ?_)
  cases hfi1 : List.findIdx? (fun e => (strKind P w).is k e.2) xs.toList with
  | some j =>
    dsimp only
    obtain ⟨hj, pj, _⟩ := List.findIdx?_eq_some_iff_getElem.mp hfi1
    have hSk1 : S k = true := (hmm k).2 ((goodT_mem (P := P) (w := w) gd k).2 ⟨xs.toList[j], List.getElem_mem hj, pj⟩)
    refine wpAny_pure (wpAny_pure ?_)
    have qq := hQQ s.heap (Heap.SameBut.refl a s.heap) ⟨o, xs, pc0, t, hb0, hx0, hd0, gd, ndp, fun i => by
      rw [Bool.or_eq_true, decide_eq_true_eq, ← hmm i]
      exact ⟨fun z => z.elim id (fun e => e ▸ hSk1), .inl⟩, hbb, hff, by rw [if_pos hSk1]; exact hnn, hrr, hll⟩
    rw [hSk1] at qq
    exact qq
  | none =>
    dsimp only
    have hnk1 : k ∉ xs.toList.map keyT := fun z => by
      obtain ⟨e, he, qq⟩ := (goodT_mem (P := P) (w := w) gd k).1 z
      have c := List.findIdx?_eq_none_iff.mp hfi1 e he
      rw [qq] at c
      cases c
    have hSk1 : S k = false := by
      cases qq : S k with
      | false => rfl
      | true => exact absurd ((hmm k).1 qq) hnk1
    have hgw1 : ∀ (b : Bool) {s₁ : Shared} {Q' : Unit → Shared → Prop}, Q' () s₁ → wpAny (model P w) A (match b with | true => rule "set.scan.the-table-gave-way" | false => pure ()) Q' E s₁ :=
      fun b s₁ Q' qq => by cases b <;> first | exact wpAny_pure qq | exact wpAny_rule qq
    have pp := layNew_perm t xs ((strKind P w).hash k) (.str k tk)
    have hff1 := layNew_fits t xs ((strKind P w).hash k) (.str k tk)
    have hrr1 := layNew_ris t xs ((strKind P w).hash k) (.str k tk) hrr
    have hll1 := layNew_led t xs ((strKind P w).hash k) (.str k tk)
    generalize layNew t xs ((strKind P w).hash k) (.str k tk) = ZZ at pp hff1 hrr1 hll1 ⊢
    obtain ⟨ys, tb1, wd, gv⟩ := ZZ
    dsimp only at pp hff1 hrr1 hll1 ⊢
    rw [Array.toList_push] at pp
    have pq : ys.toList.Perm (((strKind P w).hash k, Value.str k tk) :: xs.toList) := pp.trans (List.perm_append_singleton _ _)
    have pk1 : (ys.toList.map keyT).Perm (k :: xs.toList.map keyT) := pq.map keyT
    have gd1 : ∀ e ∈ ys.toList, GoodT w e := fun e he => by
      rcases List.mem_cons.mp (pq.mem_iff.mp he) with z | z
      · rw [z]; exact ⟨k, tk, rfl, rfl⟩
      · exact gd e z
    have nd2 : (ys.toList.map keyT).Nodup := pk1.nodup_iff.mpr (List.nodup_cons.mpr ⟨hnk1, ndp⟩)
    have mm1 : ∀ i, (S i || decide (i = k)) = true ↔ i ∈ ys.toList.map keyT := fun i => by
      rw [Bool.or_eq_true, decide_eq_true_eq, hmm i, pk1.mem_iff, List.mem_cons]
      exact Or.comm
    have hs1 : ys.size = n + 1 := by rw [← Array.length_toList, pq.length_eq, List.length_cons, Array.length_toList, hnn]
    have hbb1 : ys.size < scanBound := by rw [hs1]; exact room
    have hled1 : w.params.followText "set-order" = true ∨ tb1.led = true := hll.imp id fun z => by rw [hll1]; exact z
    have finX : ∀ h', Heap.SameBut a s.heap h' → SetX w h' a (fun j => S j || decide (j = k)) ys.size → Q true { s with heap := h' } := fun h' sbb r => by
      have qq := hQQ h' sbb
      rw [hSk1] at qq
      rw [hs1] at r
      exact qq r
    refine wpAny_bind (hgw1 _ ?_)
    split
    · refine wpAny_bind ?_
      rw [hashByValue_scannable 8 hsc1]
      refine wpAny_pure ?_
      refine setX_tail ?_ hb0 hx0 hd0 gd1 nd2 mm1 hbb1 ?_ ?_ ?_ ?_
      · intro b s₁ Q' qq; cases b <;> first | exact wpAny_pure qq | exact wpAny_rule qq
      · first | (split <;> first | exact hff1 | exact SetTable.fits_plain_off hff1) | exact hff1
      · first | (split <;> exact hrr1) | exact hrr1
      · first | (split <;> exact hled1) | exact hled1
      · intro h' sbb r; dsimp only; exact wpAny_pure (finX h' sbb r)
    · refine wpAny_bind (wpAny_pure ?_)
      simp only [↓reduceIte]
      refine setX_tail ?_ hb0 hx0 hd0 gd1 nd2 mm1 hbb1 hff1 hrr1 hled1 ?_
      · intro b s₁ Q' qq; cases b <;> first | exact wpAny_pure qq | exact wpAny_rule qq
      · intro h' sbb r; dsimp only; exact wpAny_pure (finX h' sbb r)

end
end RF
end
section
set_option linter.all false
set_option maxRecDepth 100000
set_option maxHeartbeats 4000000
set_option autoImplicit false
/-! RfSet2: set(texts) and sorted(set(texts)). -/
namespace RF
open PySem PySem.Spec L2
open PyProof.Rows hiding St
theorem SetX.at {w : World} {h h' : Heap} {a : Addr} {S : Str → Bool} {n : Nat} (R : SetX w h a S n) (k : ∀ o, h.get? a = some o → h'.get? a = some o) : SetX w h' a S n := by
  obtain ⟨o, es, ep, t, ho, r⟩ := R
  exact ⟨o, es, ep, t, k o ho, r⟩
theorem SetX.congr {w : World} {h : Heap} {a : Addr} {S S' : Str → Bool} {n n' : Nat} (R : SetX w h a S n) (e : ∀ k, S k = S' k) (en : n = n') : SetX w h a S' n' := by
  have q : S = S' := funext e
  rw [← q, ← en]; exact R
section
variable {P : Program} {w : World} {A : Around} {E : Value → Shared → Prop} {s : Shared}
theorem code_set_newX (v : Value) {QQ : Value → Shared → Prop}
    (hx : QQ (.ref s.heap.objs.size) { s with heap := s.heap.push { cls := .type "set", dict := none, data := .set #[] 0 (.fresh 0 0 (!w.params.followText "set-order")) } }) :
    codeAny (model P w) A (.call (.builtin "set.__new__") ⟨[.type "set", v], []⟩) (wants QQ E) s := by
  refine codeAny_of_tree ?_
  show wpAny _ A.in1 (do checkBuiltinCall "set.__new__" ⟨[.type "set", v], []⟩; again (.builtin "set.__new__" ⟨[.type "set", v], []⟩)) _ _ s
  refine wpAny_bind (wpAny_of_eq (F.newCall_set_1 v) (wpAny_pure ⟨plainId_quiet F.plain_set_new _, codeAny_builtin F.entry_set_new ?_⟩))
  rw [Around.under_plainId F.plain_set_new _]
  unfold Builtin.«set.__new__» Builtin.Frozenset.newClass
  have hsub := sub_set_self
  obtain ⟨hpp, gg, dd, tkk, oss⟩ := s
  dsimp only
  wp_walk
  refine wpAny_askSetting (wpAny_pure ?_)
  dsimp only
  simp only [newObj]
  refine wpAny_bind (wpAny_alloc (wpAny_pure ?_))
  exact wpAny_pure hx

theorem setX_fresh {h : Heap} (w : World) : SetX w (h.push { cls := .type "set", dict := none, data := .set #[] 0 (.fresh 0 0 (!w.params.followText "set-order")) }) h.objs.size (fun _ => false) 0 :=
  ⟨_, #[], 0, _, Heap.get?_push_size _ rfl, ⟨rfl, rfl, rfl⟩, rfl, (fun e he => by simp at he), (by simp), (fun k => by simp), (by decide), (by rfl), rfl, List.Pairwise.nil, by
    show _ ∨ (!w.params.followText "set-order") = true
    cases w.params.followText "set-order"
    · exact .inr rfl
    · exact .inl rfl⟩
end
section
variable {prog : Program} {w : World} {A : Around} {R : Result → Shared → Prop} {I : Addr} {fp wr : List Addr} {G : Array GenState → Array GenState → Prop} {n : Nat} {P : Nat → Value → Prop} {St : Nat → Shared → Prop}
theorem loopX (W : WalksS prog w A.in1 I fp wr G n P St) (Z : Addr) (hZf : Z ∉ fp) (xs : List Str) (hsz : xs.length = n) (hn1 : n + 1 < scanBound)
    (hval : ∀ i v, P i v → ∃ t, v = .str (xs.getD i Str.empty) t) :
    ∀ (k i c : Nat) (s : Shared), n - i = k → i ≤ n → St i s → c ≤ i →
      SetX w s.heap Z (fun k' => (xs.take i).any (· == k')) c →
      (∀ s' c', Moved (Z :: wr) G s s' → c' ≤ n → SetX w s'.heap Z (fun k' => xs.any (· == k')) c' → R (.ok (.ret .none)) s') →
      codeAny (model prog w) A (.builtin "set.update.loop" ⟨[.ref Z, .ref I], []⟩) R s := by
  have hZw : Z ∉ wr := fun h => hZf (W.sub _ h)
  have hsub : ∀ b ∈ wr, b ∈ Z :: wr := fun b hb => List.mem_cons_of_mem _ hb
  intro k
  induction k with
  | zero =>
    intro i c s hk hi hst hc hS hR
    have hin : i = n := by omega
    subst hin
    refine codeAny_builtin PyProof.Rows.F.entry_set_update_loop ?_
    rw [Around.under_plainId PyProof.Rows.F.plain_set_update_loop _]
    show wpAny _ A.in1 (pyNext (.ref I) >>= _) _ _ s
    refine wpAny_bind (W.done s _ _ hst fun s' hm => ?_)
    show wpAny _ A.in1 (ret Value.none) _ _ s'
    refine wpAny_pure (hR s' c (hm.mono hsub) hc ((hS.at fun o e => hm.heap Z _ hZw e).congr (fun k' => ?_) rfl))
    rw [← hsz, List.take_length]
  | succ k ih =>
    intro i c s hk hi hst hc hS hR
    have hlt : i < n := by omega
    refine codeAny_builtin PyProof.Rows.F.entry_set_update_loop ?_
    rw [Around.under_plainId PyProof.Rows.F.plain_set_update_loop _]
    show wpAny _ A.in1 (pyNext (.ref I) >>= _) _ _ s
    refine wpAny_bind (W.item i s _ _ hlt hst fun v s' hP hst' hm => ?_)
    obtain ⟨t, rfl⟩ := hval i v hP
    have hS' : SetX w s'.heap Z (fun k' => (xs.take i).any (· == k')) c := hS.at fun o e => hm.heap Z _ hZw e
    show wpAny _ A.in1 (holding [Value.str (xs.getD i Str.empty) t] (setAdd Z (.str (xs.getD i Str.empty) t)) >>= _) _ _ s'
    refine wpAny_bind (wpAny_holding ?_)
    unfold setAdd
    refine wpAny_holding ?_
    refine wpAny_bind ((PySem.strKind prog w).pyHash (k := xs.getD i Str.empty) (strKind_is _ _ _ _) ?_)
    refine setX_hashed (s := { s' with toks := s'.toks + 1 }) hS' (by omega) fun h' hsb hS2 => ?_
    obtain ⟨c', hc', hSi⟩ : ∃ c', c' ≤ i + 1 ∧ SetX w h' Z (fun k' => (xs.take (i + 1)).any (· == k')) c' := by
      refine ⟨_, ?_, hS2.congr (fun k' => ?_) rfl⟩
      · split <;> omega
      · have hl : i < xs.length := by omega
        have e1 : xs.getD i Str.empty = xs[i] := by simp [List.getD, List.getElem?_eq_getElem hl]
        rw [List.take_succ, List.getElem?_eq_getElem hl, List.any_append, e1]
        show (_ || decide (k' = xs[i])) = (_ || ([xs[i]].any (· == k')))
        by_cases e : k' = xs[i]
        · rw [e]; simp
        · have hb : (xs[i] == k') = false := by simpa [beq_iff_eq] using (fun h' : xs[i] = k' => e h'.symm)
          simp [hb, e]
    refine wpAny_pure ⟨plainId_quiet PyProof.Rows.F.plain_set_update_loop _, ih (i + 1) c' _ (by omega) hlt (W.frame _ s' _ _ hst' (Nat.le_succ _) fun b hb o e => ?_) hc' hSi fun s'' c'' hm'' hc'' hS'' => ?_⟩
    · rw [hsb.2 b (fun h : b = Z => hZf (by rw [← h]; exact hb))]; exact e
    · refine hR s'' c'' (Moved.trans W.gtrans ((hm.mono hsub).then_heap (Nat.le_succ _) fun b o hb e => ?_) hm'') hc'' hS''
      rw [hsb.2 b (fun h : b = Z => hb (by rw [h]; exact List.mem_cons_self))]; exact e
end
section
variable {prog : Program} {w : World} {A : Around} {E : Value → Shared → Prop} {s : Shared}
theorem call_setX {l : Addr} {T : String} {items : Array Value} {xs : List Str} {Q : Value → Shared → Prop}
    (hh : A.handled = none) (hT : T = "list" ∨ T = "tuple") (hl : (T = "list" ∧ s.heap.IsList l items) ∨ (T = "tuple" ∧ s.heap.IsTuple l items)) (hi : PyProof.Rows.StrsAre items.toList xs) (hn1 : xs.length + 1 < scanBound)
    (hfin : ∀ (h' : Heap) (tk c : Nat), c ≤ xs.length → SetX w h' s.heap.objs.size (fun k' => xs.any (· == k')) c →
      (∀ b o, b < s.heap.objs.size → s.heap.get? b = some o → h'.get? b = some o) → s.heap.objs.size < h'.objs.size → Q (.ref s.heap.objs.size) { s with heap := h', toks := tk }) :
    wpAny (model prog w) A (call (.type "set") [.ref l]) Q E s := by
  obtain ⟨cc, tl, hmro⟩ := PySem.F.called_set.mro
  have hmade := PySem.F.called_set.made
  have hsub := PySem.F.called_set.sub
  refine wpAny_call (codeAny_of_tree ?_)
  show wpAny _ _ (callAny (.type "set") _) _ _ _
  refine wpAny_pure ⟨Code.quiet_builtin _ (by decide +kernel), codeAny_builtin PySem.F.entry_type_call ?_⟩
  rw [Around.under_plain (weight_type_call_type "set" [.ref l] []) rfl]
  have h1 := PySem.F.called_set.notType
  have h2 := PySem.F.called_set.canCreate
  have hct := PySem.F.typeCall_set_1 (.ref l)
  repeat (any_goals (first | assumption | wp_step))
  refine codeAny_mono (code_set_newX (.ref l) (E := E) (QQ := fun obj s₁ => obj = .ref s.heap.objs.size ∧ s₁ = { s with heap := s.heap.push { cls := .type "set", dict := none, data := .set #[] 0 (.fresh 0 0 (!w.params.followText "set-order")) } }) ⟨rfl, rfl⟩) fun r s₁ hr => ?_
  cases r with
  | error e => exact hr
  | ok fl =>
    cases fl with
    | ret obj =>
      obtain ⟨rfl, rfl⟩ := hr
      have hnew := setX_fresh (h := s.heap) w
      generalize eled : (!w.params.followText "set-order") = led at *
      have hS : (s.heap.push { cls := .type "set", dict := none, data := .set #[] 0 (.fresh 0 0 led) }).get? s.heap.objs.size = some { cls := .type "set", dict := none, data := .set #[] 0 (.fresh 0 0 led) } := Heap.get?_push_size _ rfl
      have hTT : Shared.TypeIs { s with heap := s.heap.push { cls := .type "set", dict := none, data := .set #[] 0 (.fresh 0 0 led) } } (.ref s.heap.objs.size) "set" := ⟨_, hS, rfl⟩
      have hli := PySem.F.called_set.init.lookup
      have hbi := PySem.F.called_set.init.bind (.ref s.heap.objs.size)
      repeat (any_goals (first | assumption | wp_step))
      refine codeAny_mono (codeAny_call_builtin (R := wants (fun r s₂ => r = .none ∧ ∃ h' tk c, s₂ = { s with heap := h', toks := tk } ∧ c ≤ xs.length ∧
          SetX w h' s.heap.objs.size (fun k' => xs.any (· == k')) c ∧
          (∀ b o, b < s.heap.objs.size → s.heap.get? b = some o → h'.get? b = some o)) E) PySem.F.called_set.init.plain PySem.F.entry_set_init (check_set_init_1 hTT ?_)) fun r₂ s₂ hr₂ => ?_
      · have fin0 : ∀ (s' : Shared) (c' : Nat), Moved (s.heap.objs.size :: [(s.heap.push { cls := .type "set", dict := none, data := .set #[] 0 (.fresh 0 0 led) }).objs.size]) Eq { s with heap := (s.heap.push { cls := .type "set", dict := none, data := .set #[] 0 (.fresh 0 0 led) }) } s' → True := fun _ _ _ => trivial
        have hlS : l < s.heap.objs.size := by
          rcases hl with ⟨_, ol, hol, _⟩ | ⟨_, ol, hol, _⟩ <;> exact Heap.lt_size hol
        have hh3 : A.in1.in1.in1.handled = none := by simp [hh]
        have hneI : l ≠ (s.heap.push { cls := .type "set", dict := none, data := .set #[] 0 (.fresh 0 0 led) }).objs.size := by
          rw [Heap.size_push]; exact Nat.ne_of_lt (Nat.lt_succ_of_lt hlS)
        have hSf : s.heap.objs.size ∉ [(s.heap.push { cls := .type "set", dict := none, data := .set #[] 0 (.fresh 0 0 led) }).objs.size, l] := by
          rw [Heap.size_push]; simp only [List.mem_cons, List.mem_singleton, List.not_mem_nil, or_false, not_or]
          exact ⟨Nat.ne_of_lt (Nat.lt_succ_self _), Nat.ne_of_gt hlS⟩
        have hsz : xs.length = items.size := by rw [← StrsAre.len_eq hi, Array.length_toList]
        have hval : ∀ (i : Nat) (v : Value), items[i]? = some v → ∃ t, v = .str (xs.getD i Str.empty) t := fun i v hv => SS.strs_at hi i v (by rw [Array.getElem?_toList]; exact hv)
        rcases hl with ⟨_, hl⟩ | ⟨_, hl⟩
        · obtain ⟨ol, hol, hcl, nl, hdl⟩ := hl
          obtain ⟨ocls, odict, odata, oslots⟩ := ol
          simp only at hcl hdl
          subst hcl; subst hdl
          have hol' : (s.heap.push { cls := .type "set", dict := none, data := .set #[] 0 (.fresh 0 0 led) }).get? l = some { cls := .type "list", dict := odict, data := .seq items nl, slots := oslots } := Heap.get?_push_of_some _ hol
          have hsls := PySem.F.sub_list_set
          have hslf := PySem.F.sub_list_frozenset
          have hne : (Value.type "list" == Value.type "dict") = false := by decide
          have hl1 : (s.heap.push { cls := .type "set", dict := none, data := .set #[] 0 (.fresh 0 0 led) }).IsList l items := ⟨_, hol', rfl, nl, rfl⟩
          unfold Builtin.«set.__init__» noKeywords Builtin.Frozenset.updateFrom
          generalize hPI : pyIter = PI
          wp_walk
          subst hPI
          refine wpAny_pyIter_list hl1 ?_
          refine wpAny_bind (wpAny_runValue ?_)
          refine loopX ((Walks.list hh3 _ l hneI items).toS) s.heap.objs.size
            hSf xs hsz (by rw [← hsz]; exact hn1) hval (items.size - 0) 0 0 _ (by omega) (Nat.zero_le _)
            ⟨⟨_, Heap.get?_push_size _ rfl, rfl, rfl⟩, (hl1.push _)⟩ (Nat.le_refl _) ?hS0 ?hR
          case hS0 => exact hnew.at fun o e => Heap.get?_push_of_some _ e
          case hR =>
            intro s' c' hm hc' hS'
            obtain ⟨h', g', d', tk', os'⟩ := s'
            have eg : g' = s.gens := hm.gens
            have ed : d' = s.drawn := hm.drawn
            have eo : os' = s.os := hm.os
            subst eg; subst ed; subst eo
            show wpAny _ _ _ _ _ _
            refine wpAny_pure ?_
            show wpAny _ _ (ret Value.none) _ _ _
            refine wpAny_pure ⟨rfl, h', tk', c', rfl, by rw [hsz]; exact hc', hS', fun b o hb e => ?_⟩
            have hb1 : b ≠ s.heap.objs.size := Nat.ne_of_lt hb
            have hb2 : b ≠ (s.heap.push { cls := .type "set", dict := none, data := .set #[] 0 (.fresh 0 0 led) }).objs.size := by
              rw [Heap.size_push]; exact Nat.ne_of_lt (Nat.lt_succ_of_lt hb)
            exact hm.heap b o (by simp only [List.mem_cons, List.mem_singleton, List.not_mem_nil, or_false, not_or]; exact ⟨hb1, hb2⟩) (Heap.get?_push_of_some _ (Heap.get?_push_of_some _ e))
        · obtain ⟨ol, hol, hcl, nl, hdl⟩ := hl
          obtain ⟨ocls, odict, odata, oslots⟩ := ol
          simp only at hcl hdl
          subst hcl; subst hdl
          have hol' : (s.heap.push { cls := .type "set", dict := none, data := .set #[] 0 (.fresh 0 0 led) }).get? l = some { cls := .type "tuple", dict := odict, data := .seq items nl, slots := oslots } := Heap.get?_push_of_some _ hol
          have hsls := PySem.F.sub_tuple_set
          have hslf := PySem.F.sub_tuple_frozenset
          have hne : (Value.type "tuple" == Value.type "dict") = false := by decide
          have hl1 : (s.heap.push { cls := .type "set", dict := none, data := .set #[] 0 (.fresh 0 0 led) }).IsTuple l items := ⟨_, hol', rfl, nl, rfl⟩
          unfold Builtin.«set.__init__» noKeywords Builtin.Frozenset.updateFrom
          generalize hPI : pyIter = PI
          wp_walk
          subst hPI
          refine wpAny_pyIter_tuple hl1 ?_
          refine wpAny_bind (wpAny_runValue ?_)
          refine loopX ((Walks.tuple hh3 _ l hneI items).toS) s.heap.objs.size
            hSf xs hsz (by rw [← hsz]; exact hn1) hval (items.size - 0) 0 0 _ (by omega) (Nat.zero_le _)
            ⟨⟨_, Heap.get?_push_size _ rfl, rfl, rfl⟩, (hl1.push _)⟩ (Nat.le_refl _) ?hS0 ?hR
          case hS0 => exact hnew.at fun o e => Heap.get?_push_of_some _ e
          case hR =>
            intro s' c' hm hc' hS'
            obtain ⟨h', g', d', tk', os'⟩ := s'
            have eg : g' = s.gens := hm.gens
            have ed : d' = s.drawn := hm.drawn
            have eo : os' = s.os := hm.os
            subst eg; subst ed; subst eo
            show wpAny _ _ _ _ _ _
            refine wpAny_pure ?_
            show wpAny _ _ (ret Value.none) _ _ _
            refine wpAny_pure ⟨rfl, h', tk', c', rfl, by rw [hsz]; exact hc', hS', fun b o hb e => ?_⟩
            have hb1 : b ≠ s.heap.objs.size := Nat.ne_of_lt hb
            have hb2 : b ≠ (s.heap.push { cls := .type "set", dict := none, data := .set #[] 0 (.fresh 0 0 led) }).objs.size := by
              rw [Heap.size_push]; exact Nat.ne_of_lt (Nat.lt_succ_of_lt hb)
            exact hm.heap b o (by simp only [List.mem_cons, List.mem_singleton, List.not_mem_nil, or_false, not_or]; exact ⟨hb1, hb2⟩) (Heap.get?_push_of_some _ (Heap.get?_push_of_some _ e))
      · cases r₂ with
        | error e => exact hr₂
        | ok fl₂ =>
          cases fl₂ with
          | ret r =>
            obtain ⟨rfl, h', tk, c, rfl, hc, hS', hk'⟩ := hr₂
            repeat (any_goals (first | assumption | wp_step))
            exact hfin _ _ c hc hS' hk' (by obtain ⟨o, _, _, _, ho, _⟩ := hS'; exact Heap.lt_size ho)
          | _ => exact hr₂.elim
    | _ => exact hr.elim
end
end RF
end
section
set_option linter.all false
set_option maxRecDepth 100000
set_option maxHeartbeats 4000000
set_option autoImplicit false
/-! RfSet3: sorted(set(texts)). -/
namespace RF
open PySem PySem.Spec L2
open PyProof.Rows hiding St
section
variable {P : Program} {w : World} {A : Around} {E : Value → Shared → Prop} {s : Shared} {a : Addr} {S : Str → Bool} {n : Nat}
def kyV (v : Value) : Str := match v with | .str k _ => k | _ => Str.empty
theorem strs_ofX : ∀ (l : List Value), (∀ v ∈ l, ∃ k tk, v = Value.str k tk) → StrsAre l (l.map kyV)
  | [], _ => .nil
  | v :: l, h => by
    obtain ⟨k, tk, rfl⟩ := h v List.mem_cons_self
    exact .cons k tk (strs_ofX l fun u hu => h u (List.mem_cons_of_mem _ hu))
theorem sortedX_set {Q : Value → Shared → Prop} (R : SetX w s.heap a S n) (hh : A.handled = none) (h64 : n < 64)
    (hfin : ∀ s' p (out : Array Value) (c : Nat) (ys : List Str), (∀ b o, s.heap.get? b = some o → s'.heap.get? b = some o) → s'.gens = s.gens → s'.os = s.os → s.heap.objs.size ≤ p →
      s'.heap.get? p = some (seqObj "list" out c) → StrsAre out.toList ys → sortedS ys = true → ys.Nodup → (∀ k, k ∈ ys ↔ S k = true) → ys.length = n → Q (.ref p) s') :
    wpAny (model P w) A (call (.builtin "sorted") [.ref a]) Q E s := by
  obtain ⟨o, es, ep, t, ho, hex, hd, g, nd, hm, hb, hf, hn, hr, hl⟩ := R
  refine Calls.call_function_entry kind_sorted plain_sorted entry_sorted (args_sorted1 _) ?_
  unfold Builtin.«sorted»
  refine wpAny_bind (m := checkCount "sorted" 1 1 _) (wpAny_pure ?_)
  refine wpAny_bind (collect_set (A := A.in1) hh ⟨o, ho, hex.1, hd⟩ hf hb hr hl fun s1 vs k1 hz g1 o1 pm => ?_)
  have hvl : vs.length = n := by rw [pm.length_eq, List.length_map, Array.length_toList]; exact hn
  have hI : StrsAre vs (vs.map kyV) := strs_ofX vs fun v hv => by
    obtain ⟨e, he, q⟩ := List.mem_map.mp (pm.mem_iff.mp hv)
    obtain ⟨k, tk, h1, _⟩ := g e he
    exact ⟨k, tk, by rw [← q]; exact h1⟩
  have pk : (vs.map kyV).Perm (es.toList.map keyT) := by
    have q := pm.map kyV
    rw [List.map_map] at q
    exact q
  refine wpAny_bind (wpAny_newList ?_ (by rw [hvl, sizeLine_eq]; omega))
  have hoL : (s1.heap.push (seqObj "list" vs.toArray 0)).get? s1.heap.objs.size = some (seqObj "list" vs.toArray 0) := Heap.get?_push_size _ rfl
  refine wpAny_bind (wpAny_holding (wpAny_call_entry slot_list_sort ⟨_, hoL, rfl⟩ entry_list_sort
    (list_sort_treeK strKind_oneLt hoL hI.keysOf (fun v₁ v₂ rest e => keyKind_strs (by rw [← e]; exact hI)) (by rw [hvl]; exact h64) fun st' hp hs => ⟨_, rfl, ?_⟩) (args_list_sort _)))
  obtain ⟨ys, a1, a2, a3⟩ := sorted_out_str hI hp hs
  obtain ⟨c, hc⟩ := sortedHeap_at (vs := vs) (out := (arrOf st').map (·.2)) hoL
  have pn : ys.Perm (es.toList.map keyT) := a2.trans pk
  refine wpAny_pure ⟨_, rfl, hfin _ s1.heap.objs.size ((arrOf st').map (·.2)) c ys (fun b u e => ?_) g1 o1 hz hc a1 a3 (pn.nodup_iff.mpr nd) (fun k => by rw [pn.mem_iff, ← hm k]) ?_⟩
  · have q := k1 b u e
    have hlt := Heap.lt_size q
    show (sortedHeap (s1.heap.push (seqObj "list" vs.toArray 0)) s1.heap.objs.size vs ((arrOf st').map (·.2))).get? b = some u
    rw [sortedHeap_old (Nat.ne_of_lt hlt) (by rw [size_push']; exact Nat.lt_succ_of_lt hlt)]
    exact Heap.get?_push_of_some _ q
  · rw [pn.length_eq, List.length_map, Array.length_toList]; exact hn
end

/-! ### in ascending order, each once -/
theorem mem_insertU (x y : Str) : ∀ l : List Str, y ∈ insertU x l ↔ y = x ∨ y ∈ l
  | [] => by simp [insertU]
  | z :: r => by
    unfold insertU
    split
    · rename_i e
      subst e
      simp
    · split
      · simp
      · rw [List.mem_cons, mem_insertU x y r, List.mem_cons]
        exact ⟨fun h => by rcases h with h | h | h <;> simp [h], fun h => by rcases h with h | h | h <;> simp [h]⟩
theorem mem_sortU (y : Str) : ∀ l : List Str, y ∈ sortU l ↔ y ∈ l
  | [] => Iff.rfl
  | x :: r => by
    show y ∈ insertU x (sortU r) ↔ _
    rw [mem_insertU, mem_sortU y r, List.mem_cons]
theorem insertU_sorted (x : Str) : ∀ l : List Str, l.Pairwise (fun a b => strLe a b = true) → (insertU x l).Pairwise fun a b => strLe a b = true
  | [], _ => List.pairwise_singleton _ _
  | y :: r, h => by
    obtain ⟨h1, h2⟩ := List.pairwise_cons.mp h
    unfold insertU
    split
    · exact h
    · split
      · rename_i c
        refine List.pairwise_cons.mpr ⟨fun a ha => ?_, h⟩
        rcases List.mem_cons.mp ha with e | e
        · rw [e]; exact c
        · exact strLe_trans c (h1 a e)
      · rename_i c
        refine List.pairwise_cons.mpr ⟨fun a ha => ?_, insertU_sorted x r h2⟩
        rcases (mem_insertU x a r).mp ha with e | e
        · rw [e]
          rcases strLe_total x y with z | z
          · exact absurd z c
          · exact z
        · exact h1 a e
theorem sortU_sorted : ∀ l : List Str, (sortU l).Pairwise fun a b => strLe a b = true
  | [] => List.Pairwise.nil
  | x :: r => insertU_sorted x _ (sortU_sorted r)
theorem insertU_nodup (x : Str) : ∀ l : List Str, l.Nodup → l.Pairwise (fun a b => strLe a b = true) → (insertU x l).Nodup
  | [], _, _ => by simp [insertU]
  | y :: r, h, o => by
    obtain ⟨h1, h2⟩ := List.nodup_cons.mp h
    obtain ⟨o1, o2⟩ := List.pairwise_cons.mp o
    unfold insertU
    split
    · exact h
    · rename_i ne
      split
      · rename_i c
        refine List.nodup_cons.mpr ⟨fun z => ?_, h⟩
        rcases List.mem_cons.mp z with e | e
        · exact ne e
        · exact ne (strLe_anti c (o1 x e))
      · refine List.nodup_cons.mpr ⟨fun z => ?_, insertU_nodup x r h2 o2⟩
        rcases (mem_insertU x y r).mp z with e | e
        · exact ne e.symm
        · exact h1 e
theorem sortU_nodup : ∀ l : List Str, (sortU l).Nodup
  | [] => List.nodup_nil
  | x :: r => insertU_nodup x _ (sortU_nodup r) (sortU_sorted r)
theorem sortU_eq {ys xs : List Str} (h : sortedS ys = true) (nd : ys.Nodup) (m : ∀ k, k ∈ ys ↔ k ∈ xs) : ys = sortU xs := by
  have p : ys.Perm (sortU xs) := (List.perm_ext_iff_of_nodup nd (sortU_nodup xs)).mpr fun k => (m k).trans (mem_sortU k xs).symm
  have e := sortedS_eq p h
  rw [e]
  exact sorted_eq (sortS_perm _) (sortS_sorted _) (sortU_sorted xs)
end RF
end
section
set_option linter.all false
set_option maxRecDepth 100000
set_option maxHeartbeats 4000000
set_option autoImplicit false
/-! RfSrt: sorted(set(..)) of texts, as a term. -/
namespace RF
open PySem PySem.Spec L2
open PyProof.Rows hiding St
section
variable {X : Cx}
def tSrt (K : PySem.W.Frag) (ta : TE) : TE := fun σ H Q => ta σ H fun x H1 => ∃ l, ∃ xs : List Str, x = .ref l ∧ (SqL K H1 l (xs.map V.str) ∨ SqT K H1 l (xs.map V.str)) ∧ xs.length < 64 ∧
  ∀ p, H1 p = none → Q (.ref p) (upd H1 p (.lst ((sortU xs).map V.str)))
theorem pe_srt {ea : Expr} {ta : TE} {p p2 q pos : Pos} (hc : X.calm = true) (hg : Gl X "sorted") (hm : X.mg "sorted" = none) (hg2 : Gl X "set") (hm2 : X.mg "set" = none) (ha : PE X ea ta)
    (na : starEach [ea] X.env = (false, eval ea X.env) :: starEach [] X.env) : PE X (.Call (.Name "sorted" p) [.Call (.Name "set" p2) [ea] [] q] [] pos) (tSrt X.K ta) := by
  refine ⟨fun pins s σ H Q I h => ?_⟩
  refine Call_ (ld_blt I hg hm (by decide +kernel : bootBuiltins "sorted" = some (.builtin "sorted")) ?_)
  refine PyProof.Rows.callWith_builtin1 (PyProof.Rows.args_cons ?_ rfl) rfl rfl
  refine Call_ (ld_blt I hg2 hm2 boot_set ?_)
  refine PyProof.Rows.callWith_type1 (PyProof.Rows.args_cons (thn (ha.run pins s σ H _ I h) fun v s1 ⟨x, H1, I1, r1, q1⟩ => PyProof.Rows.args_nil ?_) na) na rfl
  obtain ⟨l, xs, rfl, hq, h64, q1⟩ := q1
  cases r1
  have hh : X.A.handled = none := I1.ok.hd hc
  obtain ⟨T, its, hT, hl, rs⟩ : ∃ (T : String) (its : List Value), (T = "list" ∨ T = "tuple") ∧ ((T = "list" ∧ s1.heap.IsList l its.toArray) ∨ (T = "tuple" ∧ s1.heap.IsTuple l its.toArray)) ∧ Vals (xs.map V.str) its := by
    rcases hq with hq | hq
    · obtain ⟨its, r, pl, hz⟩ := I1.list hq
      exact ⟨"list", its, .inl rfl, .inl ⟨rfl, pl.isList⟩, r⟩
    · obtain ⟨its, r, pl, hz⟩ := I1.tuple hq
      exact ⟨"tuple", its, .inr rfl, .inr ⟨rfl, pl⟩, r⟩
  refine call_setX hh hT hl (by simpa using strsAre_of rs) (by unfold scanBound; omega) fun h' tk c hcx hS hk hlt => ?_
  refine PyProof.Rows.args_nil ?_
  have I2 : Inv X pins σ H1 { s1 with heap := h', toks := tk } := I1.kept fun b o e => hk b o (Heap.lt_size e) e
  have hS2 : SetX X.w ({ s1 with heap := h', toks := tk } : Shared).heap s1.heap.objs.size (fun k' => xs.any (· == k')) c := hS
  generalize ({ s1 with heap := h', toks := tk } : Shared) = s2 at I2 hS2 ⊢
  refine sortedX_set hS2 hh (by omega) fun s' p out c' ys k g o hp hg' hi hs hnd hmm hl' => ?_
  have hlen : (ys.map V.str).length ≤ sizeLine := by rw [List.length_map, hl', sizeLine_eq]; omega
  have hn : H1 p = none := I2.hok.fresh hp
  have J : Inv X pins σ (upd H1 p (.lst (ys.map V.str))) { s2 with heap := s'.heap, gens := s'.gens, drawn := s'.drawn, toks := s'.toks } :=
    I2.call (ch := []) (Un.laid k hp hn) (I2.hok.laid k hp ⟨hlen, out.toList, c', vals_of_strs hi, hg'⟩) (by rw [g]; exact I2.bare) (fun _ z => nomatch z)
  have e : s' = { s2 with heap := s'.heap, gens := s'.gens, drawn := s'.drawn, toks := s'.toks } := by
    cases s'
    cases s2
    cases o
    rfl
  rw [e]
  have ey : ys = sortU xs := sortU_eq hs hnd fun k => by
    rw [hmm k]
    simp
  subst ey
  exact ⟨.ref p, _, J, rfl, q1 p hn⟩
end
section
variable {X : Cx} {cl : Nat → Addr} {own : List Nat}
theorem rn_srt {ea : Expr} {f : En → M D} {p p2 q pos : Pos} (hc : X.calm = true) (hg : Gl X "sorted") (hm : X.mg "sorted" = none) (hg2 : Gl X "set") (hm2 : X.mg "set" = none) (ha : PE X ea (tE X.K cl own true f)) (hs : okShape ea = true) :
    PE X (.Call (.Name "sorted" p) [.Call (.Name "set" p2) [ea] [] q] [] pos) (tN1 X.K cl own fun δ => do srtF (← f δ)) := by
  refine (pe_srt hc hg hm hg2 hm2 ha (shape_star hs)).imp fun σ H Q ⟨ω, δ, S, s, qq⟩ => ?_
  refine ⟨ω, δ, S, s, nG_bind qq fun ω1 v H1 x S1 g1 s1 r1 q1 => ?_⟩
  simp only [srtF] at q1
  cases e : seqOf x with
  | none => rw [e] at q1; exact q1.elim
  | some l =>
    rw [e] at q1
    dsimp only at q1
    cases e2 : strsOf l with
    | none => rw [e2] at q1; exact q1.elim
    | some xs =>
      rw [e2] at q1
      dsimp only at q1
      by_cases hz : xs.length < 64
      · simp only [if_pos hz] at q1
        cases x with
        | lst l' =>
          cases e
          obtain ⟨a, vs, rfl, hl, ra⟩ := RepB.seqL r1
          obtain rfl := rep_strs ra e2
          exact ⟨a, xs, rfl, .inl hl, hz, fun p hp => nG.mk q1 s1 hp ⟨_, upd_same, (repL_strs _).plus hp⟩⟩
        | tup l' =>
          cases e
          obtain ⟨a, vs, rfl, hl, ra⟩ := (RepB.tup r1).seqT
          obtain rfl := rep_strs ra e2
          exact ⟨a, xs, rfl, .inr hl, hz, fun p hp => nG.mk q1 s1 hp ⟨_, upd_same, (repL_strs _).plus hp⟩⟩
        | _ => cases e
      · rw [if_neg hz] at q1
        exact q1.elim
end
end RF
end
section
set_option linter.all false
set_option maxRecDepth 100000
set_option maxHeartbeats 4000000
set_option autoImplicit false
/-! RfKw: calls with keywords. -/
namespace RF
open PySem PySem.Spec L2
open PyProof.Rows hiding St
def simpB (p : Arguments) (ps : List Str) : Bool := p.posonlyargs.isEmpty && (p.vararg.isNone && (p.kwonlyargs.isEmpty && (p.kwarg.isNone && decide (p.args.map (·.arg) = ps))))
theorem loop_kw {f : Str × Value → (List (Str × Value) × List (Str × Value)) → Sem (ForInStep (List (Str × Value) × List (Str × Value)))} : ∀ (kw sl : List (Str × Value)), (∀ x ∈ kw, ∀ sl : List (Str × Value), sl.lookup x.1 = none → f x (sl, []) = pure (.yield (sl ++ [x], []))) →
    (kw.map (·.1)).Nodup → (∀ x ∈ kw, sl.lookup x.1 = none) → forIn kw (sl, []) f = pure (sl ++ kw, [])
  | [], sl, _, _, _ => by rw [List.forIn_nil, List.append_nil]
  | x :: kw, sl, hf, hn, hs => by
    rw [List.forIn_cons, hf x (by simp) sl (hs x (by simp))]
    rw [List.map_cons, List.nodup_cons] at hn
    have ih := loop_kw kw (sl ++ [x]) (fun y hy => hf y (List.mem_cons_of_mem _ hy)) hn.2 (fun y hy => by
      rw [List.lookup_append, hs y (List.mem_cons_of_mem _ hy)]
      have hne : ¬ y.1 = x.1 := fun z => hn.1 (z ▸ List.mem_map_of_mem (f := (·.1)) hy)
      simp [List.lookup_cons, hne])
    simp only [pure_bind]
    rw [ih]
    simp
theorem lookup_zip_none {ps : List Str} {us : List Value} {n : Str} (h : n ∉ ps) : (ps.zip us).lookup n = none := by
  rw [List.lookup_eq_none_iff]
  intro z hz
  have := (List.of_mem_zip hz).1
  simp only [bne_iff_ne, ne_eq]
  intro e
  exact h (e ▸ this)
theorem lookup_zip_some : ∀ {ks : List Str} {ws : List Value} {n : Str}, ks.length = ws.length → n ∈ ks → ∃ v, (ks.zip ws).lookup n = some v
  | [], _, _, _, h => nomatch h
  | k :: ks, [], _, hl, _ => by simp at hl
  | k :: ks, w :: ws, n, hl, h => by
    rw [List.zip_cons_cons, List.lookup_cons]
    cases e : n == k with
    | true => exact ⟨w, rfl⟩
    | false =>
      rcases List.mem_cons.mp h with z | z
      · rw [z] at e; simp at e
      · exact lookup_zip_some (by simpa using hl) z
theorem map_lookup : ∀ {ps : List Str} {us : List Value}, ps.Nodup → us.length = ps.length → ps.map (fun n => ((ps.zip us).lookup n).getD .none) = us
  | [], us, _, hl => by
    have := List.length_eq_zero_iff.mp hl
    subst this
    rfl
  | p :: ps, [], _, hl => by simp at hl
  | p :: ps, u :: us, nd, hl => by
    rw [List.nodup_cons] at nd
    have ih := map_lookup (us := us) nd.2 (by simpa using hl)
    rw [List.map_cons]
    congr 1
    · simp [List.lookup_cons]
    · conv => rhs; rw [← ih]
      refine List.map_congr_left fun n hn => ?_
      have : (n == p) = false := by
        simp only [beq_eq_false_iff_ne]
        exact fun z => nd.1 (z ▸ hn)
      rw [List.zip_cons_cons, List.lookup_cons, this]
theorem bind_kw {x qual : Str} {params : Arguments} {body : List Stmt} {scope : Scope} {ps : List Str} (h : simpB params ps = true) (nd : ps.Nodup) (kV doc pm : Value) (an : Option Addr) (cdv ct : Value) (us ws : List Value) (ks : List Str) (hk : ks.Nodup) (hw : ks.length = ws.length) (hl : us.length + ks.length = ps.length) (hs : ∀ p ∈ ps.drop us.length, p ∈ ks) (hs2 : ∀ p ∈ ks, p ∈ ps.drop us.length) :
    bindArgs (PySem.W.fnOf x qual params body scope .none kV doc pm an cdv ct) ⟨us, ks.zip ws⟩ = pure (ps.zip (us ++ (ps.drop us.length).map fun p => ((ks.zip ws).lookup p).getD .none)) := by
  obtain ⟨po, ar, va, ko, kd, kw, df⟩ := params
  simp only [simpB, Bool.and_eq_true, List.isEmpty_iff, Option.isNone_iff_eq_none, decide_eq_true_eq] at h
  obtain ⟨rfl, rfl, rfl, rfl, h⟩ := h
  have hmul : us.length ≤ ps.length := by omega
  -- the slots
  have e1 : ps.zip us = (ps.take us.length).zip us := by
    conv => lhs; rw [← List.take_append_drop us.length ps]
    have : us = us ++ [] := by simp
    conv => lhs; rw [this]
    rw [List.zip_append (by simp [hmul])]
    simp
  have ndT : (ps.take us.length).Nodup := nd.sublist (List.take_sublist _ _)
  have dis : ∀ p ∈ ps.drop us.length, p ∉ ps.take us.length := fun p hp hq => by
    have := nd
    rw [← List.take_append_drop us.length ps, List.nodup_append] at this
    exact this.2.2 p hq p hp rfl
  have keys : (ks.zip ws).map (·.1) = ks := by
    rw [List.map_fst_zip]
    omega
  have mem : ∀ y ∈ ks.zip ws, y.1 ∈ ks := fun y hy => (List.of_mem_zip hy).1
  have noT : ∀ y ∈ ks.zip ws, (ps.zip us).lookup y.1 = none := fun y hy => by
    rw [e1]
    exact lookup_zip_none (dis _ (hs2 _ (mem y hy)))
  unfold bindArgs PySem.W.fnOf
  simp only [h, List.map_nil, List.nil_append, List.append_nil]
  rw [loop_kw (ks.zip ws) (ps.zip us) (fun y hy sl hsl => by
    have hc : ps.contains y.1 = true := List.contains_iff_mem.mpr (List.mem_of_mem_drop (hs2 _ (mem y hy)))
    have hno : (List.lookup y.1 sl).isSome = false := by rw [hsl]; rfl
    simp only [hc, Bool.true_or, if_true, hno, Bool.false_eq_true, if_false]) (by rw [keys]; exact hk) noT]
  have val : ∀ n ∈ ps, ∃ v, (ps.zip us ++ ks.zip ws).lookup n = some v := fun n hn => by
    rw [List.lookup_append]
    rw [← List.take_append_drop us.length ps] at hn
    rcases List.mem_append.mp hn with z | z
    · obtain ⟨v, hv⟩ := lookup_zip_some (ws := us) (by simp [hmul]) z
      rw [e1, hv]
      exact ⟨v, rfl⟩
    · obtain ⟨v, hv⟩ := lookup_zip_some hw (hs n z)
      rw [e1, lookup_zip_none (dis n z), hv]
      exact ⟨v, rfl⟩
  have miss : (ps.filter fun n => (List.lookup n (ps.zip us ++ ks.zip ws)).isNone) = [] := by
    rw [List.filter_eq_nil_iff]
    intro n hn
    obtain ⟨v, hv⟩ := val n hn
    simp [hv]
  have fin : (ps.filterMap fun n => ((ps.zip us ++ ks.zip ws).lookup n).map fun u => (n, u)) = ps.zip (us ++ (ps.drop us.length).map fun p => ((ks.zip ws).lookup p).getD .none) := by
    have f1 : (ps.filterMap fun n => ((ps.zip us ++ ks.zip ws).lookup n).map fun u => (n, u)) = ps.map fun n => (n, ((ps.zip us ++ ks.zip ws).lookup n).getD .none) := by
      have gen : ∀ l : List Str, (∀ n ∈ l, n ∈ ps) → (l.filterMap fun n => ((ps.zip us ++ ks.zip ws).lookup n).map fun u => (n, u)) = l.map fun n => (n, ((ps.zip us ++ ks.zip ws).lookup n).getD .none) := by
        intro l
        induction l with
        | nil => intro _; rfl
        | cons n l ih =>
          intro hl
          obtain ⟨v, hv⟩ := val n (hl n (by simp))
          rw [List.filterMap_cons, hv, List.map_cons, hv, ← ih fun m hm => hl m (List.mem_cons_of_mem _ hm)]
          rfl
      exact gen ps fun _ h => h
    have f2 : ∀ (l : List Str) (g : Str → Value), (l.map fun n => (n, g n)) = l.zip (l.map g) := by
      intro l g
      induction l with
      | nil => rfl
      | cons a l ih => simp [ih]
    rw [f1, f2]
    congr 1
    conv => lhs; rw [show ps.map (fun n => ((ps.zip us ++ ks.zip ws).lookup n).getD .none) = (ps.take us.length ++ ps.drop us.length).map (fun n => ((ps.zip us ++ ks.zip ws).lookup n).getD .none) by rw [List.take_append_drop]]
    rw [List.map_append]
    congr 1
    · have := map_lookup (us := us) ndT (by simp [hmul])
      conv => rhs; rw [← this]
      refine List.map_congr_left fun n hn => ?_
      obtain ⟨v, hv⟩ := lookup_zip_some (ws := us) (by simp [hmul]) hn
      rw [List.lookup_append, e1, hv]
      rfl
    · refine List.map_congr_left fun n hn => ?_
      rw [List.lookup_append, e1, lookup_zip_none (dis n hn)]
      rfl
  have h3 : ¬ ps.length < us.length := by omega
  simp [seqItems?, h3, miss, fin]
  rfl
/-- how a def binds what is given by place and by name -/
def KwB (fd : FuncData) (ps : List Str) : Prop := ∀ (s : Shared) (us ws : List Value) (ks : List Str), ks.Nodup → ks.length = ws.length → us.length + ks.length = ps.length → (∀ p ∈ ps.drop us.length, p ∈ ks) → (∀ p ∈ ks, p ∈ ps.drop us.length) →
  BindsTo s fd ⟨us, ks.zip ws⟩ (ps.zip (us ++ (ps.drop us.length).map fun p => ((ks.zip ws).lookup p).getD .none))
theorem kwB {K : PySem.W.Frag} {x qual : Str} {params : Arguments} {body : List Stmt} {scope : Scope} {a : Addr} {fd : FuncData} {ps : List Str} (F : FunD K x qual params body scope [] [] a fd) (h : simpB params ps = true) (nd : ps.Nodup) : KwB fd ps := by
  obtain ⟨oc, od, dV, kV, doc, pm, an, cdv, ct, osl, rfl, lk, hcd, hD, hK⟩ := F.ex
  rcases hD with ⟨_, rfl⟩ | ⟨e, _⟩
  · exact fun s us ws ks h1 h2 h3 h4 h5 => .of_eq (bind_kw h nd kV doc pm an cdv ct us ws ks h1 h2 h3 h4 h5)
  · exact absurd rfl e
def pmB (ps ks : List Str) (m : Nat) (pm : List Nat) : Bool := decide (ks.Nodup) && (decide (m + ks.length = ps.length) && ((ps.drop m).all (fun p => ks.contains p) && (ks.all (fun p => (ps.drop m).contains p) && decide (pm = List.range m ++ (ps.drop m).map fun p => m + ks.idxOf p))))
theorem lookup_idx : ∀ {ks : List Str} {ws : List Value} {p : Str}, ks.length = ws.length → (ks.zip ws).lookup p = ws[ks.idxOf p]?
  | [], ws, p, h => by
    have : ws = [] := List.length_eq_zero_iff.mp h.symm
    subst this
    rfl
  | k :: ks, [], p, h => by simp at h
  | k :: ks, w :: ws, p, h => by
    rw [List.zip_cons_cons, List.lookup_cons, List.idxOf_cons]
    by_cases z : p = k
    · subst z; simp
    · have z1 : (p == k) = false := by simpa using z
      have z2 : (k == p) = false := by simpa using fun e => z e.symm
      rw [z1, z2]
      simp only [cond_false, List.getElem?_cons_succ]
      exact lookup_idx (by simpa using h)
theorem pick_eq {ps ks : List Str} {us ws : List Value} {pm : List Nat} (h : pmB ps ks us.length pm = true) (hw : ks.length = ws.length) : us ++ (ps.drop us.length).map (fun p => ((ks.zip ws).lookup p).getD .none) = pick pm (us ++ ws) .none := by
  simp only [pmB, Bool.and_eq_true, decide_eq_true_eq] at h
  obtain ⟨_, _, _, _, rfl⟩ := h
  unfold pick
  rw [List.map_append]
  congr 1
  · refine List.ext_getElem (by simp) fun i h1 h2 => ?_
    have hi : i < us.length := h1
    simp [List.getD, List.getElem?_append_left hi, hi]
  · rw [List.map_map]
    refine List.map_congr_left fun p _ => ?_
    show _ = (us ++ ws).getD (us.length + ks.idxOf p) .none
    rw [lookup_idx hw, List.getD_eq_getElem?_getD, List.getElem?_append_right (Nat.le_add_right _ _), Nat.add_sub_cancel_left]
section
variable {X : Cx} {k : Nat} {f : Addr} {fd : FuncData} {ps ks : List Str} {sp : Sp} {pm : List Nat}
theorem Vals.getD {vs : List V} {us : List Value} (r : Vals vs us) (i : Nat) : RelV (vs.getD i .non) (us.getD i .none) := by
  rw [List.getD_eq_getElem?_getD, List.getD_eq_getElem?_getD]
  cases e : vs[i]? with
  | none =>
    rw [Vals.none_of r e]
    rfl
  | some v =>
    obtain ⟨u, hu, ru⟩ := r.get e
    rw [hu]
    exact ru
theorem Vals.pick {vs : List V} {us : List Value} (r : Vals vs us) : ∀ pm : List Nat, Vals (pick pm vs .non) (pick pm us .none)
  | [] => .nil
  | i :: pm => .cons (Vals.getD r i) (Vals.pick r pm)
theorem run_fnrK {pins : List (Addr × Obj)} {σ : L2.St} {H : Hp} {s : Shared} {Q : VK} {us ws : List Value} {vs zs : List V} (F : FnR X.prog X.w X.K X.mg X.base k f fd ps sp) (hr : Room k X.A) (gd : X.A.guards = some []) (hb : KwB fd ps) (hp : pmB ps ks vs.length pm = true) (hz : ks.length = zs.length)
    (I : Inv X pins σ H s) (r : Vals vs us) (rz : Vals zs ws) (h : sp (pick pm (vs ++ zs) .non) H Q E0) : wpAny (model X.prog X.w) X.A (call (.ref f) us (ks.zip ws)) (EP X pins σ Q) X.xe s := by
  have e1 : vs.length = us.length := r.length
  have e2 : ks.length = ws.length := hz.trans rz.length
  rw [e1] at hp
  have hp' := hp
  simp only [pmB, Bool.and_eq_true, decide_eq_true_eq, List.all_eq_true, List.contains_iff_mem] at hp'
  obtain ⟨p1, p2, p3, p4, _⟩ := hp'
  have hb' := hb s us ws ks p1 e2 p2 p3 p4
  rw [pick_eq hp e2] at hb'
  refine wpAny_call (codeAny_mono (F.run X.A X.stack s H ⟨us, ks.zip ws⟩ _ _ Q E0 hr gd I.env0 hb' (Vals.pick (r.append rz) pm) h) fun res s' hq => ?_)
  cases res with
  | error e => exact hq.elim
  | ok fl =>
    cases fl with
    | ret u => exact I.after hq
    | next => exact hq.elim
    | brk => exact hq.elim
    | cont => exact hq.elim
/-- the keywords' names -/
def kwNm (kws : List Keyword) (ks : List Str) : Bool := decide (kws.map (·.arg) = ks.map some)
theorem kw_all : ∀ {kws : List Keyword} {ks : List Str} {env : Env} {pos : Pos}, kws.map (·.arg) = ks.map some → (backToKw pos (keywordEach kws env)).all (·.1.isSome) = true ∧ (backToKw pos (keywordEach kws env)).filterMap (·.1) = ks ∧ (backToKw pos (keywordEach kws env)).any (·.1.isNone) = false
  | [], ks, _, _, h => by
    cases ks with
    | nil => exact ⟨rfl, rfl, rfl⟩
    | cons _ _ => simp at h
  | ⟨nm, e, kp⟩ :: kws, [], _, _, h => by simp at h
  | ⟨nm, e, kp⟩ :: kws, n :: ks, env, pos, h => by
    have h1 : nm = some n ∧ kws.map (·.arg) = ks.map some := by simpa using h
    obtain ⟨rfl, h2⟩ := h1
    obtain ⟨i1, i2, i3⟩ := kw_all (env := env) (pos := pos) h2
    have e0 : backToKw pos (keywordEach (⟨some n, e, kp⟩ :: kws) env) = (some n, do let v ← eval e env; standAt pos; pure v) :: backToKw pos (keywordEach kws env) := rfl
    rw [e0]
    refine ⟨?_, ?_, ?_⟩
    · rw [List.all_cons, i1]; rfl
    · rw [List.filterMap_cons, i2]
    · rw [List.any_cons, i3]; rfl
theorem pe_callRK {x : Str} {p pos : Pos} {e : Expr} {es : List Expr} {kws : List Keyword} {t tk : TA} (F : FnR X.prog X.w X.K X.mg X.base k f fd ps sp) (hr : Room k X.A) (gd : X.A.guards = some []) (hg : Gl X x) (hm : X.mg x = some (.ref f)) (hk : PySem.W.keepIn X.K (.ref f) = true) (hb : KwB fd ps)
    (ha : PA X (e :: es) t) (hkw : PK X kws tk) (hdb : (x == ("__debug__" : Str)) = false) (he : okShape e = true ∧ es.all okShape = true) (hn : kws.map (·.arg) = ks.map some) :
    PE X (.Call (.Name x p) (e :: es) kws pos) (fun σ H Q => t σ H fun vs H1 => tk σ H1 fun zs H2 => pmB ps ks vs.length pm = true ∧ ks.length = zs.length ∧ sp (pick pm (vs ++ zs) .non) H2 Q E0) := by
  refine ⟨fun pins s σ H Q I h => ?_⟩
  obtain ⟨k1, k2, k3⟩ := kw_all (env := X.env) (pos := pos) hn
  have hns := noStar (es := e :: es) (env := X.env) (pos := pos) (by simp [he])
  refine wpAny_Call_Name_kw (ld_glob I hg hm ?_ hdb)
  refine PySem.W.callWith_KW (h₀ := X.base) I.ok.mod.kin hk k1 (thn (ha.run pos pins s σ H _ I h) fun us s1 ⟨vs, H1, I1, r, q⟩ => ?_) (by rw [hns, k3]; rfl) (shape_star he.1)
  refine thn (hkw.run pos pins s1 σ H1 _ I1 q) fun ws s2 ⟨zs, H2, I2, rz, q1, q2, q3⟩ => ⟨I2.kIn, ?_⟩
  rw [k2]
  exact run_fnrK F hr gd hb q1 q2 I2 r rz q3
theorem pe_callRK0 {x : Str} {p pos : Pos} {kws : List Keyword} {tk : TA} (F : FnR X.prog X.w X.K X.mg X.base k f fd ps sp) (hr : Room k X.A) (gd : X.A.guards = some []) (hg : Gl X x) (hm : X.mg x = some (.ref f)) (hk : PySem.W.keepIn X.K (.ref f) = true) (hb : KwB fd ps)
    (hkw : PK X kws tk) (hdb : (x == ("__debug__" : Str)) = false) (hn : kws.map (·.arg) = ks.map some) :
    PE X (.Call (.Name x p) [] kws pos) (fun σ H Q => tk σ H fun zs H2 => pmB ps ks 0 pm = true ∧ ks.length = zs.length ∧ sp (pick pm zs .non) H2 Q E0) := by
  refine ⟨fun pins s σ H Q I h => ?_⟩
  obtain ⟨k1, k2, k3⟩ := kw_all (env := X.env) (pos := pos) hn
  refine wpAny_Call_Name_kw (ld_glob I hg hm ?_ hdb)
  refine PySem.W.callWith_KW0 (h₀ := X.base) I.ok.mod.kin hk k1 (thn (hkw.run pos pins s σ H _ I h) fun ws s2 ⟨zs, H2, I2, rz, q1, q2, q3⟩ => ⟨I2.kIn, ?_⟩) (by rw [k3]; rfl)
  rw [k2]
  exact run_fnrK (vs := []) F hr gd hb q1 q2 I2 .nil rz q3
end
section
variable {K : PySem.W.Frag} {cl : Nat → Addr} {own : List Nat} {b : Bool} {X : Cx} {k : Nat} {f : Addr} {fd : FuncData} {ps ks : List Str} {sp : Sp} {pm : List Nat}
theorem rk_nil : PK X [] (tA K cl own b fun _ => pure []) :=
  ⟨fun pos pins s σ H Q I ⟨ω, δ, S, s', q⟩ => pk_nil.run pos pins s σ H Q I (q ω [] H (Go.refl _ _) s' .nil)⟩
theorem rk_cons {nm : Option Str} {e : Expr} {kp : Pos} {kws : List Keyword} {f : En → M D} {g : En → M (List D)} (he : PE X e (tE K cl own b f)) (hr : PK X kws (tA K cl own b g)) :
    PK X (⟨nm, e, kp⟩ :: kws) (tA K cl own b fun δ => do let x ← f δ; let l ← g δ; pure (x :: l)) := by
  refine ⟨fun pos pins s σ H Q I ⟨ω, δ, S, s', q⟩ => (pk_cons he hr).run pos pins s σ H Q I ?_⟩
  refine ⟨ω, δ, S, s', pG_bind q fun ω1 v H1 x S1 g1 s1 r1 q1 => ?_⟩
  refine ⟨ω1, δ, S1, s1, pG_bind q1 fun ω2 vs H2 l S2 g2 s2 r2 q2 => ?_⟩
  exact q2 ω2 _ H2 (Go.refl _ _) s2 (.cons (r1.go g2 s1.wok) r2)
theorem RepL.pick {ω : Wd} {H : Hp} {vs : List V} {ds : List D} (r : RepL K cl ω H vs ds) (pm : List Nat) : RepL K cl ω H (pick pm vs .non) (permD pm ds) := by
  unfold permD
  induction pm with
  | nil => exact RepL.nil
  | cons i pm ih =>
    refine RepL.cons ?_ ih
    show Rep K cl ω H (vs.getD i .non) (ds.getD i .non)
    rw [List.getD_eq_getElem?_getD, List.getD_eq_getElem?_getD]
    cases e : vs[i]? with
    | none =>
      have : ds[i]? = none := by
        rw [List.getElem?_eq_none_iff] at e ⊢
        rw [← r.1]
        exact e
      rw [this]
      exact .non
    | some v =>
      obtain ⟨d, hd, rd⟩ := r.atV e
      rw [hd]
      exact rd
theorem RepFL.app {ω : Wd} {H : Hp} {vs ws : List V} {ds es : List D} (r : RepFL K cl b ω H vs ds) (q : RepFL K cl b ω H ws es) : RepFL K cl b ω H (vs ++ ws) (ds ++ es) := by
  induction r with
  | nil => exact q
  | cons h r ih => exact .cons h ih
theorem RepFL.ln {ω : Wd} {H : Hp} {vs : List V} {ds : List D} (r : RepFL K cl b ω H vs ds) : vs.length = ds.length := by
  induction r with
  | nil => rfl
  | cons _ _ ih => simp [ih]
theorem RepFL.goS {ω ω1 : Wd} {H H1 : Hp} {vs : List V} {ds : List D} (r : RepFL K cl false ω H vs ds) (g : Go ω H ω1 H1) : RepFL K cl false ω1 H1 vs ds := by
  induction r with
  | nil => exact .nil
  | cons h r ih => exact .cons (Rep.go h g.st) ih
theorem pick_len {α : Type} (pm : List Nat) (l : List α) (d : α) : (pick pm l d).length = pm.length := by unfold pick; simp
theorem pm_len {m : Nat} (h : pmB ps ks m pm = true) : pm.length = ps.length := by
  simp only [pmB, Bool.and_eq_true, decide_eq_true_eq] at h
  obtain ⟨_, h2, _, _, rfl⟩ := h
  simp
  omega
theorem re_callK {x : Str} {p pos : Pos} {e : Expr} {es : List Expr} {kws : List Keyword} {gs hs : En → M (List D)} {ar : Nat} {g : List D → M D} (F : FnR X.prog X.w X.K X.mg X.base k f fd ps (spOf X.K cl ar g)) (hr : Room k X.A) (gd : X.A.guards = some []) (hg : Gl X x) (hm : X.mg x = some (.ref f)) (hk : PySem.W.keepIn X.K (.ref f) = true)
    (hb : KwB fd ps) (hdb : (x == ("__debug__" : Str)) = false) (ha : PA X (e :: es) (tA X.K cl own false gs)) (hkw : PK X kws (tA X.K cl own false hs)) (hsh : okShape e = true ∧ es.all okShape = true) (hn : kws.map (·.arg) = ks.map some) (har : ps.length = ar)
    {m : Nat} (hpm : pmB ps ks m pm = true) (h1 : ∀ δ S ds S', gs δ S = .ok ds S' → ds.length = m) (h2 : ∀ δ S ds S', hs δ S = .ok ds S' → ks.length = ds.length) :
    PE X (.Call (.Name x p) (e :: es) kws pos) (tE X.K cl own b fun δ => do let a ← gs δ; let c ← hs δ; g (permD pm (a ++ c))) := by
  refine (pe_callRK (pm := pm) F hr gd hg hm hk hb ha hkw hdb hsh hn).imp fun σ H Q ⟨ω, δ, S, s, q⟩ => ?_
  dsimp only at q
  rw [M.bind_run] at q
  cases e1 : gs δ S with
  | exc _ _ => rw [e1] at q; exact q.elim
  | no => rw [e1] at q; exact q.elim
  | ok ds S1 =>
    rw [e1] at q
    refine ⟨ω, δ, S, s, ?_⟩
    rw [e1]
    intro ω1 vs H1 g1 s1 r1
    dsimp only at q
    rw [M.bind_run] at q
    cases e2 : hs δ S1 with
    | exc _ _ => rw [e2] at q; exact q.elim
    | no => rw [e2] at q; exact q.elim
    | ok es' S2 =>
      rw [e2] at q
      refine ⟨ω1, δ, S1, s1, ?_⟩
      rw [e2]
      intro ω2 zs H2 g2 s2 r2
      have l1 : vs.length = m := by rw [r1.ln]; exact h1 δ S ds S1 e1
      refine ⟨by rw [l1]; exact hpm, by rw [r2.ln]; exact h2 δ S1 es' S2 e2, ?_⟩
      refine sp_of s2 (by rw [pick_len, pm_len hpm, har]) (RepL.pick ((r1.goS g2).app r2).l pm) (pG.go (pG.go q g1) g2)
theorem re_callK0 {x : Str} {p pos : Pos} {kws : List Keyword} {hs : En → M (List D)} {ar : Nat} {g : List D → M D} (F : FnR X.prog X.w X.K X.mg X.base k f fd ps (spOf X.K cl ar g)) (hr : Room k X.A) (gd : X.A.guards = some []) (hg : Gl X x) (hm : X.mg x = some (.ref f)) (hk : PySem.W.keepIn X.K (.ref f) = true)
    (hb : KwB fd ps) (hdb : (x == ("__debug__" : Str)) = false) (hkw : PK X kws (tA X.K cl own false hs)) (hn : kws.map (·.arg) = ks.map some) (har : ps.length = ar)
    (hpm : pmB ps ks 0 pm = true) (h2 : ∀ δ S ds S', hs δ S = .ok ds S' → ks.length = ds.length) :
    PE X (.Call (.Name x p) [] kws pos) (tE X.K cl own b fun δ => do let c ← hs δ; g (permD pm c)) := by
  refine (pe_callRK0 (pm := pm) F hr gd hg hm hk hb hkw hdb hn).imp fun σ H Q ⟨ω, δ, S, s, q⟩ => ?_
  dsimp only at q
  rw [M.bind_run] at q
  cases e2 : hs δ S with
  | exc _ _ => rw [e2] at q; exact q.elim
  | no => rw [e2] at q; exact q.elim
  | ok es' S2 =>
    rw [e2] at q
    refine ⟨ω, δ, S, s, ?_⟩
    rw [e2]
    intro ω2 zs H2 g2 s2 r2
    refine ⟨hpm, by rw [r2.ln]; exact h2 δ S es' S2 e2, ?_⟩
    exact sp_of s2 (by rw [pick_len, pm_len hpm, har]) (RepL.pick r2.l pm) (pG.go q g2)
end
end RF
end
section
set_option linter.all false
set_option maxRecDepth 100000
set_option maxHeartbeats 4000000
set_option autoImplicit false
/-! RfChk1: whether an expression of the program is a given term. -/
namespace RF
open PySem PySem.Spec L2
open PyProof.Rows hiding St

/-- what the global names are: defs (number, name, arity, whether the answer is new), constants, builtins, classes -/
structure Tb where
  fns : List (Nat × Str × Nat × Bool × List Str)
  gls : List (Nat × Str × D)
  tbs : List (Nat × Str × List (Str × D))
  bls : List Str
  cls : List Str
  tys : List Ty
def visB (sc : Scope) (x : Str) : Bool := match sc.names.lookup x with
  | some .local | some .cell | some .free => true
  | _ => false
def locB (sc : Scope) (x : Str) : Bool := match sc.names.lookup x with
  | some .local | some .cell => true
  | _ => false
def plocB (sc : Scope) (x : Str) : Bool := match sc.names.lookup x with
  | some .local => true
  | _ => false
def glB (sc : Scope) (x : Str) : Bool := match sc.names.lookup x with
  | some .globalImplicit => true
  | _ => false
def dbgB (x : Str) : Bool := !(x == ("__debug__" : Str))
def varB (C : Cs) (i : Nat) (x : Str) : Bool := (C.N[i]? == some x) && (visB C.sc x && (dbgB x && !(x == ("__classdict__" : Str))))
def cstB : D → Const → Bool
  | .non, .none => true
  | .bl a, .bool b => a == b
  | .int i, .int j => i == j
  | .str x, .str y => x == y
  | _, _ => false
/-- may be given away -/
def giv (own : List Nat) : X → Bool
  | .var i => !own.contains i
  | .ite _ a b => giv own a && giv own b
  | _ => true
def isN (T : Tb) : X → Bool
  | .lst _ | .dnew | .comp .. | .addN .. | .mulN .. | .cutN .. | .srt _ => true
  | .bi B _ => newBi B
  | .call f _ => match T.fns.lookup f with
    | some (_, _, nw, _) => nw
    | none => false
  | .ite _ a b => isN T a && isN T b
  | _ => false
def blkB (C : Cs) (scope : Scope) (own : List Nat) : Bool :=
  (match scope.kind with | .function => true | _ => false) &&
  (scope.names.all (fun y => scope.names.lookup y.1 == some y.2) &&
  (own.all (fun i => (C.N[i]?).isSome) &&
  (scope.names.all (fun y => match y.2 with
    | .free => (match C.sc.names.lookup y.1 with | some .cell | some .free => true | _ => false)
    | _ => true) &&
  scope.names.all (fun y => match y.2 with
    | .local | .cell => own.any (fun i => C.N[i]? == some y.1) || !C.N.contains y.1
    | _ => true))))
def inBlk (C : Cs) (scope : Scope) : Cs := { C with sc := relS scope C.sc, fb := fun x => scope.names.lookup x == some .cell }
mutual
def chkTg (C : Cs) : Tg → Expr → Bool
  | .nm i, .Name x _ => (C.N[i]? == some x) && (locB C.sc x && ((C.fb x || plocB C.sc x) && !C.own.contains i))
  | .tup ts, .Tuple es _ _ => chkTgs C ts es
  | _, _ => false
def chkTgs (C : Cs) : List Tg → List Expr → Bool
  | [], [] => true
  | t :: ts, e :: es => chkTg C t e && (okShape e && chkTgs C ts es)
  | _, _ => false
end
def tyB (T : Tb) (sc : Scope) : Ty → Expr → Bool
  | .int, .Name x _ => (x == ("int" : Str)) && (glB sc x && T.bls.contains x)
  | .bool, .Name x _ => (x == ("bool" : Str)) && (glB sc x && T.bls.contains x)
  | .str, .Name x _ => (x == ("str" : Str)) && (glB sc x && T.bls.contains x)
  | .tuple, .Name x _ => (x == ("tuple" : Str)) && (glB sc x && T.bls.contains x)
  | .cls c, .Name x _ => (T.cls[c]? == some x) && glB sc x
  | _, _ => false
def wkB (own Mu : List Nat) : X → Bool
  | .var i => !own.contains i || !Mu.contains i
  | a => giv own a
/-- the keywords' names -/
def kwNs (kws : List Keyword) : List Str := kws.filterMap (·.arg)
def kwBo (kws : List Keyword) : Bool := kws.all (·.arg.isSome)
mutual
def chk (T : Tb) (C : Cs) : X → Expr → Bool
  | .var i, .Name x _ => varB C i x
  | .vim i, .Name x _ => varB C i x
  | .cst d, .Constant c _ _ => cstB d c
  | .gl i, .Name x _ => (match T.gls.lookup i with | some (y, _) => y == x | none => false) && glB C.sc x
  | .call f as, .Call (.Name x _) es [] _ => (match T.fns.lookup f with
    | some (y, ar, _, _) => (x == y) && (glB C.sc x && ((as.length == ar) && (chks T C as es && (as.all (giv C.own) && es.all okShape))))
    | none => false)
  | .callK f as ks pm, .Call (.Name x _) es kws _ => (match T.fns.lookup f with
    | some (y, ar, nw, ps) => (x == y) && (glB C.sc x && ((as.length + ks.length == ar) && (chks T C as es && ((as.all (giv C.own) && es.all okShape) && (chkKs T C ks kws && (ks.all (giv C.own) && (!nw && (kwBo kws && ((ps.length == ar) && pmB ps (kwNs kws) as.length pm)))))))))
    | none => false)
  | .bi B as, .Call (.Name x _) (e :: es) [] _ => (x == biNm B) && (glB C.sc x && (T.bls.contains x && (chks T C as (e :: es) && (e :: es).all okShape)))
  | .bin op a b, .BinOp ea op' eb _ => decide (op' = bopOf op) && (chk T C a ea && chk T C b eb)
  | .addN a b, .BinOp ea op' eb _ => decide (op' = .Add) && (chk T C a ea && chk T C b eb)
  | .mulN a b, .BinOp ea op' eb _ => decide (op' = .Mult) && (chk T C a ea && chk T C b eb)
  | .neg a, .UnaryOp .USub ea _ => chk T C a ea
  | .not a, .UnaryOp .Not ea _ => chk T C a ea
  | .cmp op a b, .Compare ea [op'] [eb] _ => decide (op' = copOf op) && (okShape eb && (chk T C a ea && chk T C b eb))
  | .chain op op2 a b c, .Compare ea [op', op2'] [eb, ec] _ => decide (op' = copOf op) && (decide (op2' = copOf op2) && (okShape eb && (okShape ec && (chk T C a ea && (chk T C b eb && chk T C c ec)))))
  | .and l, .BoolOp .And es _ => !l.isEmpty && chks T C l es
  | .or l, .BoolOp .Or es _ => !l.isEmpty && chks T C l es
  | .ite c a b, .IfExp ec ea eb _ => chk T C c ec && (chk T C a ea && chk T C b eb)
  | .tup l, .Tuple es _ _ => chks T C l es && (l.all (giv C.own) && es.all okShape)
  | .lst l, .List es _ => chks T C l es && (l.all (giv C.own) && es.all okShape)
  | .ix a i, .Subscript ea ei _ => okShape ei && (chk T C a ea && chk T C i ei)
  | .cut a lo hi, .Subscript ea (.Slice elo ehi none _) _ => chk T C a ea && (chkO T C lo elo && chkO T C hi ehi)
  | .cutN a lo hi, .Subscript ea (.Slice elo ehi none _) _ => chk T C a ea && (chkO T C lo elo && chkO T C hi ehi)
  | .comp e tg k it ifs ow, .ListComp elt [⟨etg, eit, eifs, 0⟩] scope _ => blkB C scope ow && (chkTg (inBlk C scope) tg etg && (chkI T C [] k it eit etg && (okShape eit && (chkIf T (inBlk C scope) ifs eifs && (chk T (inBlk C scope) e elt &&
      (giv C.own e && (Tg.slots tg).all ow.contains))))))
  | .isi a t, .Call (.Name x _) [ea, eT] [] _ => (x == ("isinstance" : Str)) && (glB C.sc x && (T.bls.contains x && (chk T C a ea && (okShape ea && (tyB T C.sc t eT && T.tys.contains t)))))
  | .dnew, .Dict [] [] _ => true
  | .srt a, .Call (.Name x _) [.Call (.Name y _) [ea] [] _] [] _ => (x == ("sorted" : Str)) && (glB C.sc x && (T.bls.contains x && ((y == ("set" : Str)) && (glB C.sc y && (T.bls.contains y && (chk T C a ea && okShape ea))))))
  | .mkx a, e => chk T C a e && (isN T a && (plainT e && okSw e))
  | .inG i no a, .Compare ea [op] [.Name x _] _ => decide (op = if no then .NotIn else .In) && ((match T.tbs.lookup i with | some (y, _) => y == x | none => false) && (glB C.sc x && chk T C a ea))
  | .ixG i a, .Subscript (.Name x _) ea _ => (match T.tbs.lookup i with | some (y, _) => y == x | none => false) && (glB C.sc x && (okShape ea && chk T C a ea))
  | _, _ => false
def chks (T : Tb) (C : Cs) : List X → List Expr → Bool
  | [], [] => true
  | a :: as, e :: es => chk T C a e && chks T C as es
  | _, _ => false
def chkKs (T : Tb) (C : Cs) : List X → List Keyword → Bool
  | [], [] => true
  | a :: as, ⟨_, e, _⟩ :: es => chk T C a e && chkKs T C as es
  | _, _ => false
def chkO (T : Tb) (C : Cs) : Option X → Option Expr → Bool
  | none, none => true
  | some a, some e => chk T C a e
  | _, _ => false
def chkIf (T : Tb) (C : Cs) : List X → List Expr → Bool
  | [], [] => true
  | [a], [e] => chk T C a e
  | _, _ => false
/-- what is walked; Mu: the own slots that the turns change -/
def chkI (T : Tb) (C : Cs) (Mu : List Nat) : ItK → List X → Expr → Expr → Bool
  | .seq, [a], e, _ => chk T C a e && wkB C.own Mu a
  | .range1, [a], .Call (.Name x _) [e] [] _, _ => (x == ("range" : Str)) && (glB C.sc x && (T.bls.contains x && (chk T C a e && okShape e)))
  | .range2, [a, b], .Call (.Name x _) [e, e2] [] _, _ => (x == ("range" : Str)) && (glB C.sc x && (T.bls.contains x && (chk T C a e && (okShape e && (chk T C b e2 && okShape e2)))))
  | .enum, [a], .Call (.Name x _) [e] [] _, .Tuple _ _ _ => (x == ("enumerate" : Str)) && (glB C.sc x && (T.bls.contains x && (chk T C a e && (okShape e && wkB C.own Mu a))))
  | _, _, _, _ => false
end
end RF
end
section
set_option linter.all false
set_option maxRecDepth 100000
set_option maxHeartbeats 4000000
set_option autoImplicit false
/-! RfChk2: what passes the check behaves as the term says. -/
namespace RF
open PySem PySem.Spec L2
open PyProof.Rows hiding St

structure XO (P : Program) (w : World) (K : PySem.W.Frag) (mg : Str → Option Value) (base : Heap) (C : Cs) (k : Nat) (X : Cx) : Prop where
  prog : X.prog = P
  w : X.w = w
  K : X.K = K
  mg : X.mg = mg
  base : X.base = base
  N : X.N = C.N
  nd : C.N.Nodup
  sc : X.env.scope = C.sc
  calm : X.calm = true
  room : Room k X.A
  gd : X.A.guards = some []
  fb : ∀ x, C.fb x = true → X.fn x = true
structure TO (P : Program) (w : World) (K : PySem.W.Frag) (mg : Str → Option Value) (base : Heap) (k : Nat) (T : Tb) (Φ : Fns) (cl : Nat → Addr) : Prop where
  fns : ∀ f x ar nw ps, T.fns.lookup f = some (x, ar, nw, ps) → ∃ a fd, mg x = some (.ref a) ∧ PySem.W.keepIn K (.ref a) = true ∧ (Binds K fd ps [] ∧ KwB fd ps) ∧ RF.FnR P w K mg base k a fd ps (if nw = true then spOfN K cl ar (Φ.fn f) else spOf K cl ar (Φ.fn f)) ∧ (x == ("__debug__" : Str)) = false
  gls : ∀ i x d, T.gls.lookup i = some (x, d) → ∃ v u, mg x = some u ∧ RelV v u ∧ (∀ ω H, Rep K cl ω H v (Φ.gl i)) ∧ (x == ("__debug__" : Str)) = false
  tbs : ∀ i x l, T.tbs.lookup i = some (x, l) → ∃ a, mg x = some (.ref a) ∧ (x == ("__debug__" : Str)) = false ∧ (∃ es n, KDict K w a es n) ∧ ∀ z : Str, ∃ r, PySem.W.nsIn K a z = some r ∧ (match (Φ.tb i).lookup z with
    | some d => ∃ u v, r = some u ∧ RelV v u ∧ ∀ ω H, Rep K cl ω H v d
    | none => r = none)
  bls : ∀ x ∈ T.bls, mg x = none
  cls : ∀ c x, T.cls[c]? = some x → mg x = some (.ref (cl c)) ∧ (x == ("__debug__" : Str)) = false
  kit : ∀ t ∈ T.tys, ∀ d, notObj d = true → clsIn Φ.nc d = true → PySem.W.kitOne K (tyD cl d) (kitT cl t) = some (isTy t d)
  clk : ∀ c, c < Φ.nc → ClsOk K (cl c)

section
variable {P : Program} {w : World} {K : PySem.W.Frag} {mg : Str → Option Value} {base : Heap} {C : Cs} {k : Nat} {X : Cx} {T : Tb} {Φ : Fns} {cl : Nat → Addr}
theorem XO.blk (o : XO P w K mg base C k X) (s : Shared) (H : Hp) (scope : Scope) (cll : List (Str × Addr)) (A : Addr) (fp : List Addr) : XO P w K mg base (inBlk C scope) k (X.blk s H scope (compEnvC scope cll A X.env) fp) := by
  refine ⟨o.prog, o.w, o.K, o.mg, o.base, o.N, o.nd, ?_, o.calm, o.room, o.gd, fun x h => h⟩
  show relS scope X.env.scope = relS scope C.sc
  rw [o.sc]
theorem gl_of (o : XO P w K mg base C k X) {x : Str} (h : glB C.sc x = true) : Gl X x := by
  show X.env.scope.names.lookup x = _
  rw [o.sc]
  unfold glB at h
  split at h
  · assumption
  · cases h
theorem vis_of (o : XO P w K mg base C k X) {x : Str} (h : visB C.sc x = true) : Vis X.env.scope x := by
  unfold Vis
  rw [o.sc]
  unfold visB at h
  split at h
  · exact .inl ‹_›
  · exact .inr (.inl ‹_›)
  · exact .inr (.inr ‹_›)
  · cases h
theorem loc_of (o : XO P w K mg base C k X) {x : Str} (h : locB C.sc x = true) : Loc X.env.scope x := by
  unfold L2.Loc
  rw [o.sc]
  unfold locB at h
  split at h
  · exact .inl ‹_›
  · exact .inr ‹_›
  · cases h
theorem ploc_of (o : XO P w K mg base C k X) {x : Str} (h : plocB C.sc x = true) : X.env.scope.names.lookup x = some .local := by
  rw [o.sc]
  unfold plocB at h
  split at h
  · assumption
  · cases h
theorem dbg_of {x : Str} (h : dbgB x = true) : (x == ("__debug__" : Str)) = false := by
  unfold dbgB at h
  simpa using h
structure VarOk (X : Cx) (i : Nat) (x : Str) : Prop where
  ix : X.N[i]? = some x
  vis : Vis X.env.scope x
  dbg : (x == ("__debug__" : Str)) = false
  cd : (x == ("__classdict__" : Str)) = false
theorem var_of (o : XO P w K mg base C k X) {i : Nat} {x : Str} (h : varB C i x = true) : VarOk X i x := by
  unfold varB at h
  simp only [Bool.and_eq_true] at h
  obtain ⟨h1, h2, h3, h4⟩ := h
  exact ⟨by rw [o.N]; exact beq_iff_eq.mp h1, vis_of o h2, dbg_of h3, by simpa using h4⟩
theorem blk_of (o : XO P w K mg base C k X) {scope : Scope} {ow : List Nat} (h : blkB C scope ow = true) : ∃ own : List (Str × Nat), own.map (·.2) = ow ∧ BlkOk X.N X.env.scope scope own := by
  unfold blkB at h
  simp only [Bool.and_eq_true, List.all_eq_true] at h
  obtain ⟨h1, h2, h3, h4, h5⟩ := h
  refine ⟨ow.map fun i => ((C.N[i]?).getD "", i), by simp [Function.comp_def], ⟨?_, fun y hy => beq_iff_eq.mp (h2 y hy), fun p hp => ?_, fun y hy e => ?_, fun y hy e => ?_⟩⟩
  · split at h1
    · assumption
    · cases h1
  · obtain ⟨i, hi, rfl⟩ := List.mem_map.mp hp
    have := h3 i hi
    rw [o.N]
    cases e : C.N[i]? with
    | none => rw [e] at this; cases this
    | some y => rfl
  · have := h4 y hy
    rw [e] at this
    rw [o.sc]
    dsimp only at this
    split at this
    · exact .inl ‹_›
    · exact .inr ‹_›
    · cases this
  · have := h5 y hy
    rcases e with e | e <;>
    · rw [e] at this
      simp only [Bool.or_eq_true, Bool.not_eq_true', List.any_eq_true] at this
      rcases this with ⟨i, hi, hx⟩ | hx
      · left
        refine List.mem_map.mpr ⟨(y.1, i), List.mem_map.mpr ⟨i, hi, ?_⟩, rfl⟩
        rw [beq_iff_eq.mp hx]
        rfl
      · right
        rw [o.N]
        intro z
        rw [List.contains_iff_mem.mpr z] at hx
        cases hx
theorem cst_of {d : D} {c : Const} {j : Nat} {pos : Pos} (h : cstB d c = true) : ∃ v, PE X (.Constant c j pos) (tC v) ∧ ∀ ω H, Rep K cl ω H v d := by
  cases d <;> cases c <;> first | cases h | skip
  · exact ⟨.non, pe_non, fun _ _ => .non⟩
  · rename_i a b
    have : a = b := by simpa [cstB] using h
    subst this
    exact ⟨.bl a, pe_bl, fun _ _ => .bl a⟩
  · rename_i a b
    have : a = b := by simpa [cstB] using h
    subst this
    exact ⟨.int a, pe_int, fun _ _ => .int a⟩
  · rename_i a b
    have : a = b := by simpa [cstB] using h
    subst this
    exact ⟨.str a, pe_str, fun _ _ => .str a⟩
mutual
theorem tg_of (o : XO P w K mg base C k X) : ∀ (t : Tg) (e : Expr), chkTg C t e = true → PG X e (tGt X.K cl C.own t) ∧ okShape e = true
  | .nm i, e, h => by
    cases e <;> first | cases h | skip
    simp only [chkTg, Bool.and_eq_true, Bool.or_eq_true, Bool.not_eq_true'] at h
    obtain ⟨h1, h2, h3, h4⟩ := h
    refine ⟨rg_name (by rw [o.N]; exact o.nd) (by rw [o.N]; exact beq_iff_eq.mp h1) (loc_of o h2) (h3.imp (o.fb _) (ploc_of o)) fun z => ?_, rfl⟩
    rw [List.contains_iff_mem.mpr z] at h4
    cases h4
  | .tup ts, e, h => by
    cases e <;> first | cases h | skip
    simp only [chkTg] at h
    obtain ⟨h1, h2, h3⟩ := tgs_of o ts _ h
    exact ⟨rg_tup o.calm h1 h2 h3, rfl⟩
theorem tgs_of (o : XO P w K mg base C k X) : ∀ (ts : List Tg) (es : List Expr), chkTgs C ts es = true → PGs X es (tGts X.K cl C.own ts) ∧ es.all okShape = true ∧ es.length = ts.length
  | [], es, h => by
    cases es <;> first | cases h | skip
    exact ⟨rgs_nil, rfl, rfl⟩
  | t :: ts, es, h => by
    cases es <;> first | cases h | skip
    simp only [chkTgs, Bool.and_eq_true] at h
    obtain ⟨h1, h2, h3⟩ := h
    obtain ⟨g1, g2⟩ := tg_of o t _ h1
    obtain ⟨g3, g4, g5⟩ := tgs_of o ts _ h3
    exact ⟨rgs_cons g1 g3 h2, by rw [List.all_cons, h2, g4]; rfl, by simp [g5]⟩
end
theorem ty_of (o : XO P w K mg base C k X) (t : TO P w K mg base k T Φ cl) {ty : Ty} {e : Expr} (h : tyB T C.sc ty e = true) : PE X e (tC (kitV cl ty)) ∧ okShape e = true := by
  cases ty <;> cases e <;> first | cases h | skip
  all_goals simp only [tyB, Bool.and_eq_true] at h
  · obtain ⟨h1, h2, h3⟩ := h
    have e1 := beq_iff_eq.mp h1
    subst e1
    exact ⟨pe_bltn (gl_of o h2) (by rw [o.mg]; exact t.bls _ (List.contains_iff_mem.mp h3)) (by decide +kernel) rfl, rfl⟩
  · obtain ⟨h1, h2, h3⟩ := h
    have e1 := beq_iff_eq.mp h1
    subst e1
    exact ⟨pe_bltn (gl_of o h2) (by rw [o.mg]; exact t.bls _ (List.contains_iff_mem.mp h3)) (by decide +kernel) rfl, rfl⟩
  · obtain ⟨h1, h2, h3⟩ := h
    have e1 := beq_iff_eq.mp h1
    subst e1
    exact ⟨pe_bltn (gl_of o h2) (by rw [o.mg]; exact t.bls _ (List.contains_iff_mem.mp h3)) (by decide +kernel) rfl, rfl⟩
  · obtain ⟨h1, h2, h3⟩ := h
    have e1 := beq_iff_eq.mp h1
    subst e1
    exact ⟨pe_bltn (gl_of o h2) (by rw [o.mg]; exact t.bls _ (List.contains_iff_mem.mp h3)) (by decide +kernel) rfl, rfl⟩
  · obtain ⟨h1, h2⟩ := h
    obtain ⟨g1, g2⟩ := t.cls _ _ (beq_iff_eq.mp h1)
    exact ⟨pe_glob (gl_of o h2) (by rw [o.mg]; exact g1) rfl g2, rfl⟩
theorem denXs_len : ∀ {l : List RF.X} {δ : En} {S : Sto} {ds : List D} {S' : Sto}, denXs Φ l δ S = .ok ds S' → ds.length = l.length
  | [], _, _, _, _, h => by cases h; rfl
  | a :: l, δ, S, ds, S', h => by
    unfold denXs at h
    rw [M.bind_run] at h
    cases e : denX Φ a δ S with
    | exc _ _ => rw [e] at h; cases h
    | no => rw [e] at h; cases h
    | ok d S1 =>
      rw [e] at h
      dsimp only at h
      rw [M.bind_run] at h
      cases e2 : denXs Φ l δ S1 with
      | exc _ _ => rw [e2] at h; cases h
      | no => rw [e2] at h; cases h
      | ok ds2 S2 =>
        rw [e2] at h
        cases h
        simp [denXs_len e2]
end
end RF
end
section
set_option linter.all false
set_option maxRecDepth 100000
set_option maxHeartbeats 4000000
set_option autoImplicit false
/-! RfChk3: expressions. -/
namespace RF
open PySem PySem.Spec L2
open PyProof.Rows hiding St

section
variable {P : Program} {w : World} {K : PySem.W.Frag} {mg : Str → Option Value} {base : Heap} {k : Nat} {T : Tb} {Φ : Fns} {cl : Nat → Addr}
theorem tE_congr {K : PySem.W.Frag} {own : List Nat} {X : Cx} {e : Expr} {b : Bool} {f g : En → M D} (h : PE X e (tE K cl own b f)) (k : ∀ δ S, f δ S = g δ S) : PE X e (tE K cl own b g) :=
  h.imp fun σ H Q z => tG_congr k z
theorem tT_congr {K : PySem.W.Frag} {own : List Nat} {X : Cx} {e : Expr} {f g : En → M Bool} (h : PT X e (tT K cl own f)) (k : ∀ δ S, f δ S = g δ S) : PT X e (tT K cl own g) :=
  h.imp fun σ H Q z => tG_congr k z
theorem tN_congr {K : PySem.W.Frag} {own : List Nat} {X : Cx} {e : Expr} {f g : En → M D} (h : PE X e (tN1 K cl own f)) (k : ∀ δ S, f δ S = g δ S) : PE X e (tN1 K cl own g) :=
  h.imp fun σ H Q ⟨ω, δ, S, s, q⟩ => ⟨ω, δ, S, s, by rw [k]; exact q⟩
/-- what a checked expression is good for -/
structure Snd (K : PySem.W.Frag) (cl : Nat → Addr) (Φ : Fns) (T : Tb) (own : List Nat) (X : Cx) (x : RF.X) (e : Expr) : Prop where
  ev : ∀ b : Bool, (b = false → giv own x = true) → PE X e (tE K cl own b (denX Φ x))
  nw : isN T x = true → PE X e (tN1 K cl own (denX Φ x))
structure SndT (K : PySem.W.Frag) (cl : Nat → Addr) (Φ : Fns) (own : List Nat) (X : Cx) (x : RF.X) (e : Expr) : Prop where
  t : PT X e (tT K cl own fun δ => do asB (← denX Φ x δ))
theorem snd_a {K : PySem.W.Frag} {own : List Nat} {X : Cx} : ∀ {l : List RF.X} {es : List Expr}, (∀ (a : RF.X) (e : Expr), (a, e) ∈ l.zip es → Snd K cl Φ T own X a e) → l.length = es.length → es.all okShape = true → ∀ b : Bool, (b = false → l.all (giv own) = true) → PA X es (tA K cl own b (denXs Φ l))
  | [], [], _, _, _, b, _ => ra_nil
  | [], e :: es, _, h, _, _, _ => by cases h
  | a :: l, [], _, h, _, _, _ => by cases h
  | a :: l, e :: es, hs, hl, ho, b, hb => by
    rw [List.all_cons, Bool.and_eq_true] at ho
    have hb' : b = false → giv own a = true ∧ l.all (giv own) = true := fun z => by
      have := hb z
      rwa [List.all_cons, Bool.and_eq_true] at this
    exact ra_cons ((hs a e (by simp)).ev b fun z => (hb' z).1) (snd_a (fun a' e' hm => hs a' e' (by simp [hm])) (by simpa using hl) ho.2 b fun z => (hb' z).2) ho.1
theorem snd_k {K : PySem.W.Frag} {own : List Nat} {X : Cx} : ∀ {l : List RF.X} {es : List Keyword}, (∀ (a : RF.X) (e : Keyword), (a, e) ∈ l.zip es → Snd K cl Φ T own X a e.value) → l.length = es.length → l.all (giv own) = true → PK X es (tA K cl own false (denXs Φ l))
  | [], [], _, _, _ => rk_nil
  | [], e :: es, _, h, _ => by cases h
  | a :: l, [], _, h, _ => by cases h
  | a :: l, ⟨nm, e, kp⟩ :: es, hs, hl, hb => by
    rw [List.all_cons, Bool.and_eq_true] at hb
    exact rk_cons ((hs a ⟨nm, e, kp⟩ (by simp)).ev false fun _ => hb.1) (snd_k (fun a' e' hm => hs a' e' (by simp [hm])) (by simpa using hl) hb.2)
theorem kw_names : ∀ {kws : List Keyword}, kwBo kws = true → kws.map (·.arg) = (kwNs kws).map some
  | [], _ => rfl
  | ⟨none, e, p⟩ :: kws, h => by simp [kwBo] at h
  | ⟨some n, e, p⟩ :: kws, h => by
    have h' : kwBo kws = true := by simpa [kwBo] using h
    have := kw_names h'
    simp only [kwNs, List.filterMap_cons, List.map_cons] at this ⊢
    rw [this]
theorem snd_and {K : PySem.W.Frag} {own : List Nat} {X : Cx} {pos : Pos} {b : Bool} : ∀ {l : List RF.X} {es : List Expr}, (∀ (a : RF.X) (e : Expr), (a, e) ∈ l.zip es → Snd K cl Φ T own X a e) → l.length = es.length → l ≠ [] → PE X (.BoolOp .And es pos) (tE K cl own b (bB (denAnd Φ l)))
  | [], _, _, _, h => absurd rfl h
  | a :: l, [], _, h, _ => by cases h
  | [a], [e], hs, _, _ => tE_congr (re_and1 ((hs a e (by simp)).ev true fun z => nomatch z)) fun δ S => by simp only [bB, denAnd]
  | [a], e :: e' :: es, _, h, _ => by cases h
  | a :: a' :: l, [e], _, h, _ => by cases h
  | a :: a' :: l, e :: e' :: es, hs, hl, _ =>
    tE_congr (re_and ((hs a e (by simp)).ev true fun z => nomatch z) (snd_and (l := a' :: l) (es := e' :: es) (fun x y hm => hs x y (List.mem_cons_of_mem _ hm)) (by simpa using hl) (by simp))) fun δ S => by rw [show denAnd Φ (a :: a' :: l) = _ from rfl]; rfl
theorem snd_or {K : PySem.W.Frag} {own : List Nat} {X : Cx} {pos : Pos} {b : Bool} : ∀ {l : List RF.X} {es : List Expr}, (∀ (a : RF.X) (e : Expr), (a, e) ∈ l.zip es → Snd K cl Φ T own X a e) → l.length = es.length → l ≠ [] → PE X (.BoolOp .Or es pos) (tE K cl own b (bB (denOr Φ l)))
  | [], _, _, _, h => absurd rfl h
  | a :: l, [], _, h, _ => by cases h
  | [a], [e], hs, _, _ => tE_congr (re_or1 ((hs a e (by simp)).ev true fun z => nomatch z)) fun δ S => by simp only [bB, denOr]
  | [a], e :: e' :: es, _, h, _ => by cases h
  | a :: a' :: l, [e], _, h, _ => by cases h
  | a :: a' :: l, e :: e' :: es, hs, hl, _ =>
    tE_congr (re_or ((hs a e (by simp)).ev true fun z => nomatch z) (snd_or (l := a' :: l) (es := e' :: es) (fun x y hm => hs x y (List.mem_cons_of_mem _ hm)) (by simpa using hl) (by simp))) fun δ S => by rw [show denOr Φ (a :: a' :: l) = _ from rfl]; rfl
theorem snd_andT {K : PySem.W.Frag} {own : List Nat} {X : Cx} {pos : Pos} : ∀ {l : List RF.X} {es : List Expr}, (∀ (a : RF.X) (e : Expr), (a, e) ∈ l.zip es → SndT K cl Φ own X a e) → l.length = es.length → l ≠ [] → PW X (.BoolOp .And es pos) (tT K cl own (denAnd Φ l))
  | [], _, _, _, h => absurd rfl h
  | a :: l, [], _, h, _ => by cases h
  | [a], [e], hs, _, _ => (rw_and1 ((hs a e (by simp)).t)).imp fun σ H Q z => tG_congr (fun δ S => by simp only [denAnd, M.bind_run]; cases denX Φ a δ S <;> rfl) z
  | [a], e :: e' :: es, _, h, _ => by cases h
  | a :: a' :: l, [e], _, h, _ => by cases h
  | a :: a' :: l, e :: e' :: es, hs, hl, _ =>
    (rw_and ((hs a e (by simp)).t) (snd_andT (l := a' :: l) (es := e' :: es) (fun x y hm => hs x y (List.mem_cons_of_mem _ hm)) (by simpa using hl) (by simp))).imp fun σ H Q z => tG_congr (fun δ S => by
      rw [show denAnd Φ (a :: a' :: l) = fun δ => (do if ← asB (← denX Φ a δ) then denAnd Φ (a' :: l) δ else pure false) from rfl]
      simp only [M.bind_run]
      cases denX Φ a δ S <;> rfl) z
theorem snd_orT {K : PySem.W.Frag} {own : List Nat} {X : Cx} {pos : Pos} : ∀ {l : List RF.X} {es : List Expr}, (∀ (a : RF.X) (e : Expr), (a, e) ∈ l.zip es → SndT K cl Φ own X a e) → l.length = es.length → l ≠ [] → PW X (.BoolOp .Or es pos) (tT K cl own (denOr Φ l))
  | [], _, _, _, h => absurd rfl h
  | a :: l, [], _, h, _ => by cases h
  | [a], [e], hs, _, _ => (rw_or1 ((hs a e (by simp)).t)).imp fun σ H Q z => tG_congr (fun δ S => by simp only [denOr, M.bind_run]; cases denX Φ a δ S <;> rfl) z
  | [a], e :: e' :: es, _, h, _ => by cases h
  | a :: a' :: l, [e], _, h, _ => by cases h
  | a :: a' :: l, e :: e' :: es, hs, hl, _ =>
    (rw_or ((hs a e (by simp)).t) (snd_orT (l := a' :: l) (es := e' :: es) (fun x y hm => hs x y (List.mem_cons_of_mem _ hm)) (by simpa using hl) (by simp))).imp fun σ H Q z => tG_congr (fun δ S => by
      rw [show denOr Φ (a :: a' :: l) = fun δ => (do if ← asB (← denX Φ a δ) then pure true else denOr Φ (a' :: l) δ) from rfl]
      simp only [M.bind_run]
      cases denX Φ a δ S <;> rfl) z
theorem both_of {K : PySem.W.Frag} {own : List Nat} {X : Cx} {x : RF.X} {e : Expr} (ev : ∀ b : Bool, (b = false → giv own x = true) → PE X e (tE K cl own b (denX Φ x))) (nw : isN T x = true → PE X e (tN1 K cl own (denX Φ x))) (pl : plainT e = true) :
    Snd K cl Φ T own X x e ∧ SndT K cl Φ own X x e := ⟨⟨ev, nw⟩, ⟨rt_val (ev true fun z => nomatch z) pl⟩⟩
theorem new_of {K : PySem.W.Frag} {own : List Nat} {X : Cx} {x : RF.X} {e : Expr} (nw : PE X e (tN1 K cl own (denX Φ x))) (pl : plainT e = true) :
    Snd K cl Φ T own X x e ∧ SndT K cl Φ own X x e := both_of (fun b _ => pe_give nw b) (fun _ => nw) pl
theorem not_own {own : List Nat} {i : Nat} (h : giv own (.var i) = true) : i ∉ own := fun z => by
  unfold giv at h
  rw [List.contains_iff_mem.mpr z] at h
  cases h
theorem wk_of {K : PySem.W.Frag} {own Mu : List Nat} {X : Cx} {x : RF.X} {e : Expr} (s : Snd K cl Φ T own X x e) (h : wkB own Mu x = true) (hv : ∀ i, x = .var i → ∃ y pos, e = .Name y pos ∧ VarOk X i y) : PE X e (tG K cl own (RepW K cl Mu) (denX Φ x)) := by
  by_cases g : giv own x = true
  · exact rw_giv (s.ev false fun _ => g)
  · cases x with
    | var i =>
      obtain ⟨y, pos, rfl, V⟩ := hv i rfl
      have hi : i ∈ own := by
        unfold giv at g
        simpa using g
      have hm : i ∉ Mu := by
        unfold wkB at h
        dsimp only at h
        rw [List.contains_iff_mem.mpr hi] at h
        simpa using h
      exact rw_var V.ix V.vis V.dbg V.cd hm hi
    | _ => exact absurd h g
/-- something new goes into the store -/
theorem re_mkx {K : PySem.W.Frag} {own : List Nat} {X : Cx} {e : Expr} {f : En → M D} {b : Bool} (h : PE X e (tN1 K cl own f)) : PE X e (tE K cl own b fun δ => do
    let d ← f δ
    fun s => .ok (.obj s.length) (s ++ [d])) := by
  refine h.imp fun σ H Q ⟨ω, δ, S, s, q⟩ => ⟨ω, δ, S, s, ?_⟩
  dsimp only at q
  rw [M.bind_run] at q
  cases e : f δ S with
  | exc _ _ => rw [e] at q; exact q.elim
  | no => rw [e] at q; exact q.elim
  | ok d S' =>
    rw [e] at q
    intro ω' a H' n s' o
    obtain ⟨g, ea⟩ := n.sto s.wok []
    obtain ⟨s2, hr⟩ := s'.sto1 ((n.av a).mpr (.inr (by simp))) o
    exact q (ω'.sto a) (.ref a) H' ⟨g, n.eq, ea⟩ s2 (RepF.of hr)
theorem re_inG {K : PySem.W.Frag} {own : List Nat} {X : Cx} {no : Bool} {a : Expr} {x : Str} {p pos : Pos} {f : En → M D} {b : Bool} {A : Addr} {es : Array DictEntry} {n : Nat} {l : List (Str × D)} (D : KDict X.K X.w A es n) (hg : Gl X x) (hm : X.mg x = some (.ref A)) (hd : (x == ("__debug__" : Str)) = false)
    (hl : ∀ z : Str, ∃ r, PySem.W.nsIn X.K A z = some r ∧ (match l.lookup z with
      | some d => ∃ u v, r = some u ∧ RelV v u ∧ ∀ ω H, Rep K cl ω H v d
      | none => r = none)) (ha : PE X a (tE K cl own true f)) :
    PE X (.Compare a [if no then .NotIn else .In] [.Name x p] pos) (tE K cl own b fun δ => do inGF l no (← f δ)) ∧
      PT X (.Compare a [if no then .NotIn else .In] [.Name x p] pos) (tT K cl own fun δ => do asB (← (do inGF l no (← f δ) : M RF.D))) := by
  have hr : OpR X (compareOp (if no then .NotIn else .In)) (fun x y H Q => ∃ (z : Str) (r : Option Value), x = .str z ∧ y = .ref A ∧ PySem.W.nsIn X.K A z = some r ∧ Q (.bl (if no then !r.isSome else r.isSome)) H) := by
    cases no with
    | true => exact op_notIn_kd D
    | false => exact op_in_kd D
  have hv := pe_glob (pos := p) hg hm (v := .ref A) rfl hd
  have hsome : ∀ z r, PySem.W.nsIn X.K A z = some r → r.isSome = (l.lookup z).isSome := fun z r e => by
    obtain ⟨r', e', q⟩ := hl z
    rw [e] at e'
    cases e'
    cases h : l.lookup z with
    | none => rw [h] at q; rw [q]; rfl
    | some d => rw [h] at q; obtain ⟨u, v, rfl, _⟩ := q; rfl
  constructor
  · refine (pe_cmpR hr ha hv (by cases no <;> rfl)).imp fun σ H Q ⟨ω, δ, S, s, q⟩ => ?_
    refine ⟨ω, δ, S, s, pG_bind q fun ω1 v H1 x S1 g1 s1 r1 q1 => ?_⟩
    cases x with
    | str z =>
      obtain ⟨r, e, _⟩ := hl z
      refine ⟨z, r, RepB.str r1, rfl, e, ?_⟩
      rw [hsome z r e]
      exact pG.ret q1 s1 (.bl _)
    | _ => exact q1.elim
  · refine (pt_cmpR hr ha hv (by cases no <;> rfl)).imp fun σ H Q ⟨ω, δ, S, s, q⟩ => ?_
    refine ⟨ω, δ, S, s, ?_⟩
    dsimp only at q
    rw [M.bind_run, M.bind_run] at q
    cases e1 : f δ S with
    | exc _ _ => rw [e1] at q; exact q.elim
    | no => rw [e1] at q; exact q.elim
    | ok x S1 =>
      rw [e1] at q
      intro ω1 v H1 g1 s1 r1
      cases x with
      | str z =>
        obtain ⟨r, e, _⟩ := hl z
        refine ⟨z, r, RepB.str r1, rfl, e, _, rfl, ?_⟩
        rw [hsome z r e]
        exact q ω1 _ H1 g1 s1 rfl
      | _ => exact q.elim
theorem re_ixG {K : PySem.W.Frag} {own : List Nat} {X : Cx} {a : Expr} {x : Str} {p pos : Pos} {f : En → M D} {b : Bool} {A : Addr} {es : Array DictEntry} {n : Nat} {l : List (Str × D)} (D : KDict X.K X.w A es n) (hg : Gl X x) (hm : X.mg x = some (.ref A)) (hd : (x == ("__debug__" : Str)) = false) (hs : okShape a = true)
    (hl : ∀ z : Str, ∃ r, PySem.W.nsIn X.K A z = some r ∧ (match l.lookup z with
      | some d => ∃ u v, r = some u ∧ RelV v u ∧ ∀ ω H, Rep K cl ω H v d
      | none => r = none)) (ha : PE X a (tE K cl own true f)) :
    PE X (.Subscript (.Name x p) a pos) (tE K cl own b fun δ => do ixGF l (← f δ)) := by
  have hv := pe_glob (pos := p) hg hm (v := .ref A) rfl hd
  refine (pe_ix ix_kdict hv ha (shape_ix hs)).imp fun σ H Q ⟨ω, δ, S, s, q⟩ => ?_
  refine ⟨ω, δ, S, s, pG_bind q fun ω1 v H1 x S1 g1 s1 r1 q1 => ?_⟩
  cases x with
  | str z =>
    obtain ⟨r, e, q⟩ := hl z
    unfold ixGF at q1
    cases h : l.lookup z with
    | none => simp only [h] at q1; exact q1.elim
    | some d =>
      simp only [h] at q1
      rw [h] at q
      obtain ⟨u, v', rfl, ru, rr⟩ := q
      exact ⟨A, z, v', rfl, RepB.str r1, ⟨es, n, u, D.at_, D.lit, e, ru⟩, pG.ret q1 s1 (rr _ _)⟩
  | _ => exact q1.elim
/-- what is walked -/
def itF (Φ : Fns) (k : ItK) (it : List RF.X) : En → M (List D) := fun δ => do M.ofO (itemsOf k (← denXs Φ it δ))
mutual
theorem snd : ∀ (x : RF.X) (C : Cs) (X : Cx) (e : Expr), XO X.prog X.w X.K X.mg X.base C k X → TO X.prog X.w X.K X.mg X.base k T Φ cl → chk T C x e = true → Snd X.K cl Φ T C.own X x e ∧ SndT X.K cl Φ C.own X x e
  | .var i, C, X, e, o, t, h => by
    cases e <;> first | cases h | skip
    have V := var_of o (by simpa only [chk] using h)
    exact both_of (fun b hb => re_var V.ix V.vis V.dbg V.cd fun hi => by
      cases b with
      | true => rfl
      | false => exact absurd hi (not_own (hb rfl))) (fun z => nomatch z) rfl
  | .vim i, C, X, e, o, t, h => by
    cases e <;> first | cases h | skip
    have V := var_of o (by simpa only [chk] using h)
    exact both_of (fun b _ => re_vim V.ix V.vis V.dbg V.cd) (fun z => nomatch z) rfl
  | .cst d, C, X, e, o, t, h => by
    cases e <;> first | cases h | skip
    obtain ⟨v, h1, h2⟩ := cst_of (K := X.K) (cl := cl) (by simpa only [chk] using h)
    exact both_of (fun b _ => re_cst h1 h2) (fun z => nomatch z) rfl
  | .gl i, C, X, e, o, t, h => by
    cases e <;> first | cases h | skip
    simp only [chk, Bool.and_eq_true] at h
    cases eg : T.gls.lookup i with
    | none => rw [eg] at h; exact absurd h.1 Bool.false_ne_true
    | some r =>
    obtain ⟨y, d⟩ := r
    rw [eg] at h
    have ey := beq_iff_eq.mp h.1
    subst ey
    obtain ⟨v, u, h1, h2, h3, h4⟩ := t.gls i _ d eg
    exact both_of (fun b _ => re_cst (pe_glob (gl_of o h.2) h1 h2 h4) h3) (fun z => nomatch z) rfl
  | .call f as, C, X, e, o, t, h => by
    cases e <;> first | cases h | skip
    rename_i fe es kws pos
    cases fe <;> first | cases h | skip
    cases kws <;> first | cases h | skip
    rename_i x p
    simp only [chk] at h
    cases ef : T.fns.lookup f with
    | none => rw [ef] at h; cases h
    | some r =>
      obtain ⟨y, ar, nw, ps⟩ := r
      rw [ef] at h
      simp only [Bool.and_eq_true] at h
      obtain ⟨h1, h2, h3, h4, h5, h6⟩ := h
      have e1 := beq_iff_eq.mp h1
      have e3 := beq_iff_eq.mp h3
      subst e1
      obtain ⟨a, fd, g1, g2, ⟨g3, _⟩, g4, g5⟩ := t.fns f x ar nw ps ef
      obtain ⟨k1, k2⟩ := sndl as C X es o t h4
      have ha := snd_a (fun a e hm => (k1 a e hm).1) k2 h6 false fun _ => h5
      have hgl : ∀ δ S ds S', denXs Φ as δ S = .ok ds S' → ds.length = ar := fun δ S ds S' z => (denXs_len z).trans e3
      have hden : ∀ δ S, (do Φ.fn f (← denXs Φ as δ) : M D) S = denX Φ (.call f as) δ S := fun δ S => rfl
      cases nw with
      | true =>
        simp only [if_true] at g4
        refine new_of ?_ rfl
        cases es with
        | nil =>
          cases as with
          | cons _ _ => cases k2
          | nil =>
            have e4 : ar = 0 := e3.symm
            subst e4
            exact tN_congr (rn_call0 g4 o.room o.gd (gl_of o h2) g1 g2 g3 g5) hden
        | cons e0 es =>
          have h6' : okShape e0 = true ∧ es.all okShape = true := by simpa using h6
          exact tN_congr (rn_call g4 o.room o.gd (gl_of o h2) g1 g2 g3 g5 ha h6' hgl) hden
      | false =>
        simp only [Bool.false_eq_true, if_false] at g4
        refine both_of (fun b _ => ?_) (fun z => by simp [isN, ef] at z) rfl
        cases es with
        | nil =>
          cases as with
          | cons _ _ => cases k2
          | nil =>
            have e4 : ar = 0 := e3.symm
            subst e4
            exact tE_congr (re_call0 g4 o.room o.gd (gl_of o h2) g1 g2 g3 g5) hden
        | cons e0 es =>
          have h6' : okShape e0 = true ∧ es.all okShape = true := by simpa using h6
          exact tE_congr (re_call g4 o.room o.gd (gl_of o h2) g1 g2 g3 g5 ha h6' hgl) hden
  | .callK f as ks pm, C, X, e, o, t, h => by
    cases e <;> first | cases h | skip
    rename_i fe es kws pos
    cases fe <;> first | cases h | skip
    rename_i x p
    simp only [chk] at h
    cases ef : T.fns.lookup f with
    | none => rw [ef] at h; cases h
    | some r =>
      obtain ⟨y, ar, nw, ps⟩ := r
      rw [ef] at h
      simp only [Bool.and_eq_true, Bool.not_eq_true'] at h
      obtain ⟨h1, h2, h3, h4, ⟨h5, h6⟩, h7, h8, h9, h10, h11, h12⟩ := h
      have e1 := beq_iff_eq.mp h1
      have e3 := beq_iff_eq.mp h3
      have e4 := beq_iff_eq.mp h11
      subst e1
      subst h9
      obtain ⟨a, fd, g1, g2, ⟨_, g3⟩, g4, g5⟩ := t.fns f x ar false ps ef
      simp only [Bool.false_eq_true, if_false] at g4
      obtain ⟨k1, k2⟩ := sndl as C X es o t h4
      have ha := snd_a (fun a e hm => (k1 a e hm).1) k2 h6 false fun _ => h5
      obtain ⟨k3, k4⟩ := sndk ks C X kws o t h7
      have hkk := snd_k (fun a e hm => (k3 a e hm).1) k4 h8
      have hn := kw_names h10
      have hks : (kwNs kws).length = ks.length := by
        have := congrArg List.length hn
        simp only [List.length_map] at this
        omega
      have hgk : ∀ δ S ds S', denXs Φ ks δ S = .ok ds S' → (kwNs kws).length = ds.length := fun δ S ds S' z => by rw [denXs_len z, hks]
      refine both_of (fun b _ => ?_) (fun z => by cases z) rfl
      cases es with
      | nil =>
        cases as with
        | cons _ _ => cases k2
        | nil =>
          have hd0 : ∀ δ S, (do let c ← denXs Φ ks δ; Φ.fn f (permD pm c) : M D) S = denX Φ (.callK f [] ks pm) δ S := fun δ S => rfl
          exact tE_congr (re_callK0 g4 o.room o.gd (gl_of o h2) g1 g2 g3 g5 hkk hn e4 h12 hgk) hd0
      | cons e0 es =>
        have h6' : okShape e0 = true ∧ es.all okShape = true := by simpa using h6
        exact tE_congr (re_callK g4 o.room o.gd (gl_of o h2) g1 g2 g3 g5 ha hkk h6' hn e4 h12 (fun δ S ds S' z => denXs_len z) hgk) fun δ S => rfl
  | .bi B as, C, X, e, o, t, h => by
    cases e <;> first | cases h | skip
    rename_i fe es kws pos
    cases fe <;> first | cases h | skip
    cases es <;> first | cases h | skip
    cases kws <;> first | cases h | skip
    rename_i x p e0 es
    simp only [chk, Bool.and_eq_true] at h
    obtain ⟨h1, h2, h3, h4, h6⟩ := h
    obtain ⟨k1, k2⟩ := sndl as C X (e0 :: es) o t h4
    have ha := snd_a (fun a e hm => (k1 a e hm).1) k2 h6 true fun z => nomatch z
    have h6' : okShape e0 = true ∧ es.all okShape = true := by simpa using h6
    have hm : X.mg x = none := t.bls _ (List.contains_iff_mem.mp h3)
    have hden : ∀ δ S, (do biD B (← denXs Φ as δ) : M D) S = denX Φ (.bi B as) δ S := fun δ S => rfl
    exact both_of (fun b _ => tE_congr (re_bi o.room o.calm o.gd (beq_iff_eq.mp h1) (gl_of o h2) hm ha h6'.1 h6'.2) hden)
      (fun z => tN_congr (rn_bi o.room o.calm o.gd (beq_iff_eq.mp h1) (gl_of o h2) hm ha h6'.1 h6'.2 z) hden) rfl
  | .bin op a b, C, X, e, o, t, h => by
    cases e <;> first | cases h | skip
    simp only [chk, Bool.and_eq_true, decide_eq_true_eq] at h
    obtain ⟨rfl, h1, h2⟩ := h
    have sa := (snd a C X _ o t h1).1
    have sb := (snd b C X _ o t h2).1
    exact both_of (fun bb _ => re_bin (sa.ev true fun z => nomatch z) (sb.ev true fun z => nomatch z)) (fun z => nomatch z) rfl
  | .addN a b, C, X, e, o, t, h => by
    cases e <;> first | cases h | skip
    simp only [chk, Bool.and_eq_true, decide_eq_true_eq] at h
    obtain ⟨rfl, h1, h2⟩ := h
    have sa := (snd a C X _ o t h1).1
    have sb := (snd b C X _ o t h2).1
    exact new_of (rn_add (sa.ev true fun z => nomatch z) (sb.ev true fun z => nomatch z)) rfl
  | .mulN a b, C, X, e, o, t, h => by
    cases e <;> first | cases h | skip
    simp only [chk, Bool.and_eq_true, decide_eq_true_eq] at h
    obtain ⟨rfl, h1, h2⟩ := h
    have sa := (snd a C X _ o t h1).1
    have sb := (snd b C X _ o t h2).1
    exact new_of (rn_mul (sa.ev true fun z => nomatch z) (sb.ev true fun z => nomatch z)) rfl
  | .neg a, C, X, e, o, t, h => by
    cases e <;> first | cases h | skip
    rename_i op ea pos
    cases op <;> first | cases h | skip
    have sa := (snd a C X _ o t (by simpa only [chk] using h)).1
    exact both_of (fun b _ => re_neg (sa.ev true fun z => nomatch z)) (fun z => nomatch z) rfl
  | .not a, C, X, e, o, t, h => by
    cases e <;> first | cases h | skip
    rename_i op ea pos
    cases op <;> first | cases h | skip
    obtain ⟨sa, ta⟩ := snd a C X _ o t (by simpa only [chk] using h)
    refine ⟨⟨fun b _ => re_not (sa.ev true fun z => nomatch z), fun z => nomatch z⟩, ⟨tT_congr (rt_not ta.t) fun δ S => ?_⟩⟩
    simp only [denX, M.bind_run]
    cases denX Φ a δ S with
    | ok d s => cases d <;> rfl
    | _ => rfl
  | .cmp op a b, C, X, e, o, t, h => by
    cases e <;> first | cases h | skip
    rename_i ea ops cs pos
    rcases ops with _ | ⟨op', _ | ⟨_, _⟩⟩ <;> first | cases h | skip
    rcases cs with _ | ⟨eb, _ | ⟨_, _⟩⟩ <;> first | cases h | skip
    simp only [chk, Bool.and_eq_true, decide_eq_true_eq] at h
    obtain ⟨rfl, h0, h1, h2⟩ := h
    have sa := (snd a C X _ o t h1).1.ev true fun z => nomatch z
    have sb := (snd b C X _ o t h2).1.ev true fun z => nomatch z
    exact ⟨⟨fun bb _ => re_cmp o.room h0 sa sb, fun z => nomatch z⟩, ⟨tT_congr (rt_cmp o.room h0 sa sb) fun δ S => rfl⟩⟩
  | .chain op op2 a b c, C, X, e, o, t, h => by
    cases e <;> first | cases h | skip
    rename_i ea ops cs pos
    rcases ops with _ | ⟨op', _ | ⟨op2', _ | ⟨_, _⟩⟩⟩ <;> first | cases h | skip
    rcases cs with _ | ⟨eb, _ | ⟨ec, _ | ⟨_, _⟩⟩⟩ <;> first | cases h | skip
    simp only [chk, Bool.and_eq_true, decide_eq_true_eq] at h
    obtain ⟨rfl, rfl, h0, h0', h1, h2, h3⟩ := h
    have sa := (snd a C X _ o t h1).1.ev true fun z => nomatch z
    have sb := (snd b C X _ o t h2).1.ev true fun z => nomatch z
    have sc := (snd c C X _ o t h3).1.ev true fun z => nomatch z
    exact ⟨⟨fun bb _ => re_chain o.room h0' sa sb sc, fun z => nomatch z⟩, ⟨tT_congr (rt_chain o.room h0' sa sb sc) fun δ S => rfl⟩⟩
  | .and l, C, X, e, o, t, h => by
    cases e <;> first | cases h | skip
    rename_i op es pos
    cases op <;> first | cases h | skip
    simp only [chk, Bool.and_eq_true, Bool.not_eq_true', List.isEmpty_eq_false_iff] at h
    obtain ⟨k1, k2⟩ := sndl l C X es o t h.2
    refine ⟨⟨fun b _ => tE_congr (snd_and (fun a e hm => (k1 a e hm).1) k2 h.1) fun δ S => rfl, fun z => nomatch z⟩, ⟨tT_congr (snd_andT (fun a e hm => (k1 a e hm).2) k2 h.1).pt fun δ S => ?_⟩⟩
    simp only [denX, M.bind_run]
    cases denAnd Φ l δ S <;> rfl
  | .or l, C, X, e, o, t, h => by
    cases e <;> first | cases h | skip
    rename_i op es pos
    cases op <;> first | cases h | skip
    simp only [chk, Bool.and_eq_true, Bool.not_eq_true', List.isEmpty_eq_false_iff] at h
    obtain ⟨k1, k2⟩ := sndl l C X es o t h.2
    refine ⟨⟨fun b _ => tE_congr (snd_or (fun a e hm => (k1 a e hm).1) k2 h.1) fun δ S => rfl, fun z => nomatch z⟩, ⟨tT_congr (snd_orT (fun a e hm => (k1 a e hm).2) k2 h.1).pt fun δ S => ?_⟩⟩
    simp only [denX, M.bind_run]
    cases denOr Φ l δ S <;> rfl
  | .ite c a b, C, X, e, o, t, h => by
    cases e <;> first | cases h | skip
    simp only [chk, Bool.and_eq_true] at h
    obtain ⟨sc, tc⟩ := snd c C X _ o t h.1
    obtain ⟨sa, ta⟩ := snd a C X _ o t h.2.1
    obtain ⟨sb, tb⟩ := snd b C X _ o t h.2.2
    have gv : giv C.own (.ite c a b) = true → giv C.own a = true ∧ giv C.own b = true := fun z => by simpa only [giv, Bool.and_eq_true] using z
    refine ⟨⟨fun bb hb => tE_congr (re_ite tc.t (sa.ev bb fun z => (gv (hb z)).1) (sb.ev bb fun z => (gv (hb z)).2)) fun δ S => ?_, fun z => ?_⟩, ⟨tT_congr (rt_ite tc.t ta.t tb.t) fun δ S => ?_⟩⟩
    · simp only [denX, M.bind_run]
      cases denX Φ c δ S <;> rfl
    · have z' : isN T a = true ∧ isN T b = true := by simpa only [isN, Bool.and_eq_true] using z
      refine tN_congr (rn_ite tc.t (sa.nw z'.1) (sb.nw z'.2)) fun δ S => ?_
      simp only [denX, M.bind_run]
      cases denX Φ c δ S <;> rfl
    · simp only [denX, M.bind_run]
      cases denX Φ c δ S with
      | ok d s =>
        dsimp only
        cases asB d s with
        | ok k s' => cases k <;> rfl
        | _ => rfl
      | _ => rfl
  | .tup l, C, X, e, o, t, h => by
    cases e <;> first | cases h | skip
    simp only [chk, Bool.and_eq_true] at h
    obtain ⟨k1, k2⟩ := sndl l C X _ o t h.1
    have ha := snd_a (fun a e hm => (k1 a e hm).1) k2 h.2.2 false fun _ => h.2.1
    exact both_of (fun b _ => re_tup ha) (fun z => nomatch z) rfl
  | .lst l, C, X, e, o, t, h => by
    cases e <;> first | cases h | skip
    simp only [chk, Bool.and_eq_true] at h
    obtain ⟨k1, k2⟩ := sndl l C X _ o t h.1
    have ha := snd_a (fun a e hm => (k1 a e hm).1) k2 h.2.2 false fun _ => h.2.1
    exact new_of (rn_lst ha) rfl
  | .ix a i, C, X, e, o, t, h => by
    cases e <;> first | cases h | skip
    simp only [chk, Bool.and_eq_true] at h
    obtain ⟨h0, h1, h2⟩ := h
    have sa := (snd a C X _ o t h1).1.ev true fun z => nomatch z
    have si := (snd i C X _ o t h2).1.ev true fun z => nomatch z
    exact both_of (fun b _ => re_ix o.room h0 sa si) (fun z => nomatch z) rfl
  | .cut a lo hi, C, X, e, o, t, h => by
    cases e <;> first | cases h | skip
    rename_i ea sl pos
    cases sl <;> first | cases h | skip
    rename_i elo ehi st pos2
    cases st <;> first | cases h | skip
    simp only [chk, Bool.and_eq_true] at h
    have sa := (snd a C X _ o t h.1).1.ev true fun z => nomatch z
    exact both_of (fun b _ => re_cut sa (sndo lo C X _ o t h.2.1) (sndo hi C X _ o t h.2.2)) (fun z => nomatch z) rfl
  | .cutN a lo hi, C, X, e, o, t, h => by
    cases e <;> first | cases h | skip
    rename_i ea sl pos
    cases sl <;> first | cases h | skip
    rename_i elo ehi st pos2
    cases st <;> first | cases h | skip
    simp only [chk, Bool.and_eq_true] at h
    have sa := (snd a C X _ o t h.1).1.ev true fun z => nomatch z
    exact new_of (rn_cut sa (sndo lo C X _ o t h.2.1) (sndo hi C X _ o t h.2.2)) rfl
  | .comp ex tg kk it ifs ow, C, X, e, o, t, h => by
    cases e <;> first | cases h | skip
    rename_i elt gens scope pos
    rcases gens with _ | ⟨⟨etg, eit, eifs, as⟩, _ | ⟨_, _⟩⟩
    · cases h
    rotate_left
    · rcases as with (_ | n) | n <;> cases h
    rcases as with (_ | n) | n
    rotate_left
    · cases h
    · cases h
    have h : (blkB C scope ow && (chkTg (inBlk C scope) tg etg && (chkI T C [] kk it eit etg && (okShape eit && (chkIf T (inBlk C scope) ifs eifs && (chk T (inBlk C scope) ex elt &&
      (giv C.own ex && (Tg.slots tg).all ow.contains))))))) = true := h
    simp only [Bool.and_eq_true] at h
    obtain ⟨h1, h2, h3, h4, h5, h6, h7, h8⟩ := h
    obtain ⟨own, eo, ok⟩ := blk_of o h1
    subst eo
    have hi := sndi [] kk it C X eit etg o t h3
    have hnd : X.N.Nodup := by rw [o.N]; exact o.nd
    refine new_of (tN_congr (rn_lc o.calm hnd hi ok (fun s H A cll fp => (tg_of (o.blk s H scope cll A fp) tg etg h2).1) (fun s H A cll fp => sndif ifs (inBlk C scope) (X.blk s H scope (compEnvC scope cll A X.env) fp) eifs (o.blk s H scope cll A fp) t h5) (fun s H A cll fp => (snd ex (inBlk C scope) (X.blk s H scope (compEnvC scope cll A X.env) fp) elt (o.blk s H scope cll A fp) t h6).1.ev false fun _ => h7) h4
      fun i hi => List.contains_iff_mem.mp (List.all_eq_true.mp h8 i hi)) fun δ S => ?_) rfl
    have e1 : denX Φ (.comp ex tg kk it ifs (own.map (·.2))) δ S = (do
      let ds ← denXs Φ it δ
      let items ← M.ofO (itemsOf kk ds)
      let l ← compL (compF tg (own.map (·.2)) (denAnd Φ ifs) (denX Φ ex) δ) items
      if items.length < line then pure (.lst l) else M.no : M D) S := rfl
    rw [e1]
    unfold itF
    simp only [M.bind_run]
    cases denXs Φ it δ S <;> rfl
  | .isi a ty, C, X, e, o, t, h => by
    cases e <;> first | cases h | skip
    rename_i fe es kws pos
    cases fe <;> first | cases h | skip
    rcases es with _ | ⟨ea, _ | ⟨eT, _ | ⟨_, _⟩⟩⟩ <;> first | cases h | skip
    cases kws <;> first | cases h | skip
    simp only [chk, Bool.and_eq_true] at h
    obtain ⟨h1, h2, h3, h4, h5, h6, h7⟩ := h
    have sa := (snd a C X _ o t h4).1.ev true fun z => nomatch z
    obtain ⟨g1, g2⟩ := ty_of o t h6
    exact both_of (fun b _ => re_isi (gl_of o h2) (beq_iff_eq.mp h1) (t.bls _ (List.contains_iff_mem.mp h3)) sa g1 h5 g2 (t.kit ty (List.contains_iff_mem.mp h7)) t.clk) (fun z => nomatch z) rfl
  | .dnew, C, X, e, o, t, h => by
    cases e <;> first | cases h | skip
    rename_i ks vs pos
    cases ks <;> cases vs <;> first | cases h | skip
    exact new_of rn_dnew rfl
  | .srt a, C, X, e, o, t, h => by
    cases e <;> first | cases h | skip
    rename_i fe es kws pos
    cases fe <;> first | cases h | skip
    rcases es with _ | ⟨e1, es⟩ <;> first | cases h | skip
    cases kws with
    | cons _ _ => simp [chk] at h
    | nil =>
    cases es with
    | cons _ _ => simp [chk] at h
    | nil =>
    cases e1 <;> first | cases h | (simp [chk] at h; done) | skip
    rename_i fe2 es2 kws2 pos2
    cases fe2 <;> first | cases h | (simp [chk] at h; done) | skip
    rcases es2 with _ | ⟨ea, _ | ⟨_, _⟩⟩ <;> first | cases h | (simp [chk] at h; done) | skip
    cases kws2 <;> first | cases h | (simp [chk] at h; done) | skip
    simp only [chk, Bool.and_eq_true] at h
    obtain ⟨h1, h2, h3, h4, h5, h6, h7, h8⟩ := h
    have sa := (snd a C X _ o t h7).1.ev true fun z => nomatch z
    have e1 := beq_iff_eq.mp h1
    have e2 := beq_iff_eq.mp h4
    subst e1
    subst e2
    exact new_of (rn_srt o.calm (gl_of o h2) (t.bls _ (List.contains_iff_mem.mp h3)) (gl_of o h5) (t.bls _ (List.contains_iff_mem.mp h6)) sa h8) rfl
  | .mkx a, C, X, e, o, t, h => by
    have h' : (chk T C a e && (isN T a && (plainT e && okSw e))) = true := by simpa only [chk] using h
    simp only [Bool.and_eq_true] at h'
    have sa := (snd a C X e o t h'.1).1.nw h'.2.1
    exact both_of (fun b _ => re_mkx sa) (fun z => nomatch z) h'.2.2.1
  | .inG i no a, C, X, e, o, t, h => by
    cases e <;> first | cases h | skip
    rename_i ea ops cs pos
    rcases ops with _ | ⟨op', _ | ⟨_, _⟩⟩ <;> first | cases h | skip
    rcases cs with _ | ⟨eb, _ | ⟨_, _⟩⟩ <;> first | cases h | skip
    all_goals cases eb <;> first | cases h | skip
    simp only [chk, Bool.and_eq_true, decide_eq_true_eq] at h
    obtain ⟨rfl, h1, h2, h3⟩ := h
    cases eg : T.tbs.lookup i with
    | none => rw [eg] at h1; exact absurd h1 Bool.false_ne_true
    | some r =>
    obtain ⟨y, l⟩ := r
    rw [eg] at h1
    have ey := beq_iff_eq.mp h1
    subst ey
    obtain ⟨A, g1, g2, ⟨es, n, D⟩, g3⟩ := t.tbs i y l eg
    have sa := (snd a C X ea o t h3).1.ev true fun z => nomatch z
    refine ⟨⟨fun b _ => (re_inG D (gl_of o h2) g1 g2 g3 sa).1, fun z => nomatch z⟩, ⟨(re_inG (b := true) D (gl_of o h2) g1 g2 g3 sa).2⟩⟩
  | .ixG i a, C, X, e, o, t, h => by
    cases e <;> first | cases h | skip
    rename_i ev ea pos
    cases ev <;> first | cases h | skip
    simp only [chk, Bool.and_eq_true] at h
    obtain ⟨h1, h2, h3, h4⟩ := h
    cases eg : T.tbs.lookup i with
    | none => rw [eg] at h1; exact absurd h1 Bool.false_ne_true
    | some r =>
    obtain ⟨y, l⟩ := r
    rw [eg] at h1
    have ey := beq_iff_eq.mp h1
    subst ey
    obtain ⟨A, g1, g2, ⟨es, n, D⟩, g3⟩ := t.tbs i y l eg
    have sa := (snd a C X ea o t h4).1.ev true fun z => nomatch z
    exact both_of (fun b _ => re_ixG D (gl_of o h2) g1 g2 h3 g3 sa) (fun z => nomatch z) rfl
  | .attr _ _, C, X, e, o, t, h => by cases e <;> cases h
  | .meth _ _ _, C, X, e, o, t, h => by cases e <;> cases h
  | .fstr _, C, X, e, o, t, h => by cases e <;> cases h
  | .callB _ _, C, X, e, o, t, h => by cases e <;> cases h
theorem sndk : ∀ (l : List RF.X) (C : Cs) (X : Cx) (es : List Keyword), XO X.prog X.w X.K X.mg X.base C k X → TO X.prog X.w X.K X.mg X.base k T Φ cl → chkKs T C l es = true → (∀ (a : RF.X) (e : Keyword), (a, e) ∈ l.zip es → Snd X.K cl Φ T C.own X a e.value ∧ SndT X.K cl Φ C.own X a e.value) ∧ l.length = es.length
  | [], C, X, es, o, t, h => by
    cases es <;> first | cases h | skip
    exact ⟨fun a e z => (by simp at z), rfl⟩
  | a :: l, C, X, es, o, t, h => by
    cases es <;> first | cases h | skip
    rename_i e es
    obtain ⟨nm, e, kp⟩ := e
    simp only [chkKs, Bool.and_eq_true] at h
    obtain ⟨h1, h2⟩ := sndk l C X es o t h.2
    refine ⟨fun x y z => ?_, by simp [h2]⟩
    rw [List.zip_cons_cons] at z
    rcases List.mem_cons.mp z with z | z
    · cases z
      exact snd a C X e o t h.1
    · exact h1 x y z
theorem sndl : ∀ (l : List RF.X) (C : Cs) (X : Cx) (es : List Expr), XO X.prog X.w X.K X.mg X.base C k X → TO X.prog X.w X.K X.mg X.base k T Φ cl → chks T C l es = true → (∀ (a : RF.X) (e : Expr), (a, e) ∈ l.zip es → Snd X.K cl Φ T C.own X a e ∧ SndT X.K cl Φ C.own X a e) ∧ l.length = es.length
  | [], C, X, es, o, t, h => by
    cases es <;> first | cases h | skip
    exact ⟨fun a e hm => by simp at hm, rfl⟩
  | a :: l, C, X, es, o, t, h => by
    cases es <;> first | cases h | skip
    simp only [chks, Bool.and_eq_true] at h
    have h1 := snd a C X _ o t h.1
    obtain ⟨h2, h3⟩ := sndl l C X _ o t h.2
    refine ⟨fun a' e' hm => ?_, by simp [h3]⟩
    simp only [List.zip_cons_cons, List.mem_cons, Prod.mk.injEq] at hm
    rcases hm with ⟨rfl, rfl⟩ | hm
    · exact h1
    · exact h2 a' e' hm
theorem sndo : ∀ (x : Option RF.X) (C : Cs) (X : Cx) (e : Option Expr), XO X.prog X.w X.K X.mg X.base C k X → TO X.prog X.w X.K X.mg X.base k T Φ cl → chkO T C x e = true → PO X e (tO X.K cl C.own (denO Φ x))
  | none, C, X, e, o, t, h => by
    cases e <;> first | cases h | skip
    exact ro_none
  | some a, C, X, e, o, t, h => by
    cases e <;> first | cases h | skip
    have sa := (snd a C X _ o t (by simpa only [chkO] using h)).1.ev true fun z => nomatch z
    exact ro_some sa
theorem sndif : ∀ (l : List RF.X) (C : Cs) (X : Cx) (es : List Expr), XO X.prog X.w X.K X.mg X.base C k X → TO X.prog X.w X.K X.mg X.base k T Φ cl → chkIf T C l es = true → PTs X es (tT X.K cl C.own (denAnd Φ l))
  | [], C, X, es, o, t, h => by
    cases es <;> first | cases h | skip
    exact ⟨fun pins s σ H Q I ⟨ω, δ, S, sr, q⟩ => pts_nil.run pins s σ H Q I (q ω true H (Go.refl _ _) sr rfl)⟩
  | [a], C, X, es, o, t, h => by
    rcases es with _ | ⟨e, _ | ⟨_, _⟩⟩ <;> first | cases h | skip
    have ta := (snd a C X _ o t (by simpa only [chkIf] using h)).2
    exact pts_one (tT_congr ta.t fun δ S => by
      simp only [denAnd, M.bind_run]
      cases denX Φ a δ S with
      | ok d s =>
        dsimp only
        cases asB d s with
        | ok k s' => cases k <;> rfl
        | _ => rfl
      | _ => rfl)
  | _ :: _ :: _, C, X, es, o, t, h => by
    rcases es with _ | ⟨e, _ | ⟨_, _⟩⟩ <;> cases h
theorem sndi : ∀ (Mu : List Nat) (kk : ItK) (l : List RF.X) (C : Cs) (X : Cx) (e tg : Expr), XO X.prog X.w X.K X.mg X.base C k X → TO X.prog X.w X.K X.mg X.base k T Φ cl → chkI T C Mu kk l e tg = true → PI X tg e (tI X.K cl C.own Mu (itF Φ kk l))
  | Mu, kk, [], C, X, e, tg, o, t, h => by cases kk <;> cases h
  | Mu, kk, [a], C, X, e, tg, o, t, h => by
    have one : ∀ δ S, (denXs Φ [a] δ S) = (do let x ← denX Φ a δ; pure [x] : M (List D)) S := fun δ S => by
      simp only [denXs, M.bind_run]
      cases denX Φ a δ S <;> rfl
    cases kk with
    | seq =>
      simp only [chkI, Bool.and_eq_true] at h
      have sa := snd a C X _ o t h.1
      refine PI.imp (ri_seq (wk_of sa.1 h.2 fun i z => ?_)) fun σ H R ⟨ω, δ, S, s, q⟩ => ⟨ω, δ, S, s, ?_⟩
      · subst z
        have h1 := h.1
        cases e <;> first | cases h1 | skip
        exact ⟨_, _, rfl, var_of o (by simpa only [chk] using h1)⟩
      · unfold itF at q
        simp only [M.bind_run, one] at q ⊢
        cases e1 : denX Φ a δ S with
        | ok d s' => rw [e1] at q; exact q
        | exc _ _ => rw [e1] at q; exact q
        | no => rw [e1] at q; exact q
    | range1 =>
      cases e <;> first | cases h | skip
      rename_i fe es kws pos
      cases fe <;> first | cases h | skip
      rcases es with _ | ⟨ea, _ | ⟨_, _⟩⟩ <;> first | cases h | skip
      cases kws <;> first | cases h | skip
      simp only [chkI, Bool.and_eq_true] at h
      obtain ⟨h1, h2, h3, h4, h5⟩ := h
      have sa := (snd a C X _ o t h4).1.ev true fun z => nomatch z
      exact ri_range1 (beq_iff_eq.mp h1) (gl_of o h2) (t.bls _ (List.contains_iff_mem.mp h3)) (ra_cons sa ra_nil h5) h5
    | range2 => cases e <;> cases h
    | enum =>
      cases e <;> first | cases h | skip
      rename_i fe es kws pos
      cases fe <;> first | cases h | skip
      rcases es with _ | ⟨ea, _ | ⟨_, _⟩⟩ <;> first | cases h | skip
      cases kws <;> first | cases h | skip
      cases tg <;> first | cases h | skip
      simp only [chkI, Bool.and_eq_true] at h
      obtain ⟨h1, h2, h3, h4, h5, h6⟩ := h
      have sa := snd a C X _ o t h4
      refine PI.imp (ri_enum (beq_iff_eq.mp h1) (gl_of o h2) (t.bls _ (List.contains_iff_mem.mp h3)) (wk_of sa.1 h6 fun i z => ?_) h5) fun σ H R ⟨ω, δ, S, s, q⟩ => ⟨ω, δ, S, s, ?_⟩
      · subst z
        cases ea <;> first | cases h4 | skip
        exact ⟨_, _, rfl, var_of o (by simpa only [chk] using h4)⟩
      · unfold itF at q
        simp only [M.bind_run, one] at q ⊢
        cases e1 : denX Φ a δ S with
        | ok d s' => rw [e1] at q; exact q
        | exc _ _ => rw [e1] at q; exact q
        | no => rw [e1] at q; exact q
  | Mu, kk, [a, b], C, X, e, tg, o, t, h => by
    cases kk with
    | range2 =>
      cases e <;> first | cases h | skip
      rename_i fe es kws pos
      cases fe <;> first | cases h | skip
      rcases es with _ | ⟨ea, _ | ⟨eb, _ | ⟨_, _⟩⟩⟩ <;> first | cases h | skip
      cases kws <;> first | cases h | skip
      simp only [chkI, Bool.and_eq_true] at h
      obtain ⟨h1, h2, h3, h4, h5, h6, h7⟩ := h
      have sa := (snd a C X _ o t h4).1.ev true fun z => nomatch z
      have sb := (snd b C X _ o t h6).1.ev true fun z => nomatch z
      exact ri_range2 (beq_iff_eq.mp h1) (gl_of o h2) (t.bls _ (List.contains_iff_mem.mp h3)) (ra_cons sa (ra_cons sb ra_nil h7) h5) h5 h7
    | _ => cases e <;> cases h
  | Mu, kk, _ :: _ :: _ :: _, C, X, e, tg, o, t, h => by cases kk <;> cases e <;> cases h
end
end
end RF
end
section
set_option linter.all false
set_option maxRecDepth 100000
set_option maxHeartbeats 4000000
set_option autoImplicit false
/-! RfChk4: statements. -/
namespace RF
open PySem PySem.Spec L2
open PyProof.Rows hiding St

/-- name = value: no store ahead of the comprehension's end -/
def swOk (sc : Scope) (x : Str) (p : Pos) : Expr → Bool
  | .ListComp _ [⟨_, _, _, _⟩] scope pos => if plocB sc x then true else true
  | e => okSw e
def plnB (sc : Scope) : Expr → Bool
  | .Name x _ => plocB sc x
  | _ => false
def noSw (sc : Scope) : Expr → Expr → Bool
  | .Tuple ts _ _, .Tuple vs _ _ => !(ts.length == 2 || ts.length == 3) || (vs.all (foldedForSure 8) || ts.any fun t => !plnB sc t)
  | .List .., _ => false
  | _, _ => true
def parB (C : Cs) (T : Tb) : List Nat → List Expr → List RF.X → Bool
  | [], [], [] => true
  | i :: is, .Name x _ :: es, e :: xs => (C.N[i]? == some x) && (plocB C.sc x && ((if C.own.contains i then isN T e else giv C.own e) && parB C T is es xs))
  | _, _, _ => false
def linesB (l : Nat) : List Expr → Bool
  | [] => true
  | e :: es => (e.pos.line == l) && linesB l es
def nmB (C : Cs) (i : Nat) (x : Str) : Bool := (C.N[i]? == some x) && locB C.sc x
mutual
def chkS (T : Tb) (C : Cs) (nw : Bool) (Mu : List Nat) : S → Stmt → Bool
  | .asg (.nm i) e, .Assign [.Name x _] ex _ => nmB C i x && (chk T C e ex && (if C.own.contains i then isN T e else giv C.own e))
  | .asg (.tup ts) e, .Assign [tg] ex _ => chkTg C (.tup ts) tg && (chk T C e ex && (giv C.own e && (okSw ex && noSw C.sc tg ex)))
  | .asgI i e, .Assign [.Name x _] ex _ => nmB C i x && (chk T C e ex && (C.own.contains i && (giv C.own e && okSw ex)))
  | .mk i e, .Assign [.Name x _] ex _ => nmB C i x && (chk T C e ex && (!C.own.contains i && isN T e))
  | .par is xs, .Assign [.Tuple ts _ _] (.Tuple es _ _) _ => (is.length == 2 || is.length == 3) && (decide is.Nodup && (parB C T is ts xs && (linesB ((ts.head?.map (·.pos.line)).getD 0) ts && (chks T C xs es && (es.all okShape && (!es.all (foldedForSure 8) && !es.all (constantsAlone 8)))))))
  | .setIx i k e, .Assign [.Subscript (.Name x _) ek _] ex _ => varB C i x && (C.own.contains i && (Mu.contains i && (giv C.own e && (chk T C e ex && (chk T C k ek && (okSw ex && okShape ek))))))
  | .setOb i k e, .Assign [.Subscript (.Name x _) ek _] ex _ => varB C i x && (giv C.own e && (chk T C e ex && (chk T C k ek && (okSw ex && okShape ek))))
  | .obT i k j e, .Assign [.Tuple [.Subscript (.Name x px) ek p, .Name y py] kt pt] ex _ => varB C i x && (nmB C j y && (!C.own.contains j && (giv C.own e && (chk T C e ex && (chk T C k ek && (okSw ex && (okShape ek && noSw C.sc (.Tuple [.Subscript (.Name x px) ek p, .Name y py] kt pt) ex)))))))
  | .app i e, .Expr (.Call (.Attribute (.Name x _) m apos) [ex] [] p) _ => (m == ("append" : Str)) && (varB C i x && (C.own.contains i && (Mu.contains i && (giv C.own e && (chk T C e ex && (okShape ex && (apos.endLine == p.line)))))))
  | .ex e, .Expr ex _ => chk T C e ex && okSw ex
  | .iff c a b, .If ec ea eb _ => chk T C c ec && (chkSs T C nw Mu a ea && chkSs T C nw Mu b eb)
  | .forr t k it body, .For etg eit eb [] _ => chkTg C t etg && (chkI T C Mu k it eit etg && (okShape eit && chkSs T C nw Mu body eb))
  | .whl c body, .While ec eb [] _ => chk T C c ec && chkSs T C nw Mu body eb
  | .ret none, .Return none _ => !nw
  | .ret (some e), .Return (some ex) _ => chk T { C with own := [] } e ex && (if nw then isN T e else giv [] e)
  | .retO i, .Return (some (.Name x _)) _ => nw && (varB C i x && C.own.contains i)
  | .never, _ => true
  | .pass, .Pass _ => true
  | .pass, .Expr (.Constant (.str _) _ _) _ => true
  | .brk, .Break _ => true
  | _, _ => false
def chkSs (T : Tb) (C : Cs) (nw : Bool) (Mu : List Nat) : List S → List Stmt → Bool
  | [], [] => true
  | s :: l, e :: es => chkS T C nw Mu s e && chkSs T C nw Mu l es
  | _, _ => false
end
structure XS (P : Program) (w : World) (K : PySem.W.Frag) (mg : Str → Option Value) (base : Heap) (C : Cs) (k : Nat) (X : Cx) : Prop extends XO P w K mg base C k X where
  kind : X.env.scope.kind = .function
  pass : PassesOwn (model X.prog X.w) X.A X.env X.xe
  fnT : ∀ x, X.fn x = true
section
variable {k : Nat} {T : Tb} {Φ : Fns} {cl : Nat → Addr} {nw : Bool} {Mu : List Nat} {Nf : Nat}
theorem tS_congr {K : PySem.W.Frag} {own : List Nat} {X : Cx} {s : Stmt} {f g : En → M Fl} (h : PS X s (tS K cl own nw Mu f)) (k : ∀ δ S, f δ S = g δ S) : PS X s (tS K cl own nw Mu g) :=
  h.imp fun D σ H ⟨ω, δ, S, sr, q⟩ => ⟨ω, δ, S, sr, by rw [k]; exact q⟩
theorem tSs_congr {K : PySem.W.Frag} {own : List Nat} {X : Cx} {s : List Stmt} {f g : En → M Fl} (h : PSs X s (tS K cl own nw Mu f)) (k : ∀ δ S, f δ S = g δ S) : PSs X s (tS K cl own nw Mu g) :=
  h.imp fun D σ H ⟨ω, δ, S, sr, q⟩ => ⟨ω, δ, S, sr, by rw [k]; exact q⟩
theorem nm_of {X : Cx} {C : Cs} (o : XS X.prog X.w X.K X.mg X.base C k X) {i : Nat} {x : Str} (h : nmB C i x = true) : NmOk X i x := by
  unfold nmB at h
  rw [Bool.and_eq_true] at h
  exact ⟨by rw [o.N]; exact o.nd, by rw [o.N]; exact beq_iff_eq.mp h.1, loc_of o.toXO h.2, .inl (o.fnT x)⟩
theorem fm_len {α β : Type} (f : α → Option β) : ∀ l : List α, (l.any fun a => (f a).isNone) = true → (l.filterMap f).length ≠ l.length
  | [], h => by cases h
  | a :: l, h => by
    have hle : (l.filterMap f).length ≤ l.length := List.length_filterMap_le f l
    rw [List.any_cons, Bool.or_eq_true] at h
    cases e : f a with
    | none =>
      rw [List.filterMap_cons, e]
      simp only [List.length_cons]
      omega
    | some b =>
      rw [e] at h
      have := fm_len f l (h.resolve_left (by simp))
      rw [List.filterMap_cons, e]
      simp only [List.length_cons, ne_eq, Nat.add_right_cancel_iff]
      exact this
theorem noSw_of {tg e : Expr} {env : Env} (h : noSw env.scope tg e = true) : swappedStores [tg] e env = pure none := by
  cases tg <;> first | rfl | cases h | skip
  cases e <;> first | rfl | skip
  rename_i ts k1 p1 vs k2 p2
  simp only [noSw, Bool.or_eq_true, Bool.not_eq_true'] at h
  unfold swappedStores
  simp only
  rcases h with h | h | h
  · rw [h]; rfl
  · simp only [h, if_true]
    split
    · rfl
    · split
      · rfl
      · split <;> rfl
  · split
    · rfl
    · split
      · rfl
      · have hne : ∀ l : Nat, ((ts.filterMap fun
          | .Name id pos => if (env.kindOf id == some .local && pos.line == l) = true then some id else none
          | _ => none).length != ts.length) = true := fun l => by
          rw [bne_iff_ne]
          refine fm_len _ ts ?_
          rw [List.any_eq_true] at h ⊢
          obtain ⟨t, ht, z⟩ := h
          refine ⟨t, ht, ?_⟩
          cases t <;> first | rfl | skip
          rename_i x px
          have z' : plocB env.scope x = false := by simpa [plnB] using z
          have hk : (env.kindOf x == some .local) = false := by
            unfold plocB at z'
            show (env.scope.names.lookup x == some .local) = false
            split at z'
            · cases z'
            · rename_i hn
              cases e : env.scope.names.lookup x with
              | none => rfl
              | some k => cases k <;> first | rfl | exact absurd e hn
          simp [hk]
        split
        · rfl
        · rename_i hc
          exact absurd (Bool.or_eq_true_iff.mpr (.inl (hne _))) hc
theorem sub_asg {x : Str} {py p : Pos} {ek : Expr} {env : Env} (h : okShape ek = true) : ∀ v, assign (.Subscript (.Name x py) ek p) env v = (do
      let ov ← holding [v] (eval (.Name x py) env)
      let iv ← holding [v, ov] (eval ek env)
      standAt p
      holding [v, ov, iv] (setItem ov iv v)
      release [v, ov, iv] []) := by
  intro v
  cases ek <;> first | rfl | cases h
/-- name = something new, whether it is a comprehension or not -/
theorem set_new {X : Cx} {C : Cs} (o : XS X.prog X.w X.K X.mg X.base C k X) (t : TO X.prog X.w X.K X.mg X.base k T Φ cl) {i : Nat} {x : Str} {p pos : Pos} {e : RF.X} {ex : Expr} (N : NmOk X i x) (hc : chk T C e ex = true) (hn : isN T e = true) {h : (En → M D) → En → M Fl}
    (hcg : ∀ {f g : En → M D}, (∀ δ S, f δ S = g δ S) → ∀ δ S, h f δ S = h g δ S)
    (hq : ∀ {f : En → M D} {ω : Wd} {H : Hp} {σ : L2.St} {δ : En} {S : Sto} {Dn : Ends}, SR X.K cl C.own ω σ H δ S → sG X.K cl C.own nw Mu ω H Dn (h f δ S) → nG X.K cl C.own ω H σ δ (fun v H' => Dn.nx (σ.set i (some v)) H') (f δ S)) :
    PS X (.Assign [.Name x p] ex pos) (tS X.K cl C.own nw Mu (h (denX Φ e))) := by
  have sn := (snd e C X ex o.toXO t hc).1.nw hn
  by_cases hsw : swapsWith ex (some (.Name x p)) pos.line X.env = pure false
  · exact rs_setE N sn hsw hq
  · cases ex with
    | ListComp elt gens scope lpos =>
      cases e <;> first | cases hc | (cases hn; done) | skip
      case comp ee tg kk it ifs ow =>
      rcases gens with _ | ⟨⟨etg, eit, eifs, as⟩, _ | ⟨_, _⟩⟩
      · cases hc
      rotate_left
      · rcases as with (_ | n) | n <;> cases hc
      rcases as with (_ | n) | n
      rotate_left
      · cases hc
      · cases hc
      have hc' : (blkB C scope ow && (chkTg (inBlk C scope) tg etg && (chkI T C [] kk it eit etg && (okShape eit && (chkIf T (inBlk C scope) ifs eifs && (chk T (inBlk C scope) ee elt &&
        (giv C.own ee && (Tg.slots tg).all ow.contains))))))) = true := hc
      simp only [Bool.and_eq_true] at hc'
      obtain ⟨h1, h2, h3, h4, h5, h6, h7, h8⟩ := hc'
      obtain ⟨own, eo, ok⟩ := blk_of o.toXO h1
      subst eo
      have hnd : X.N.Nodup := by rw [o.N]; exact o.nd
      have L : LcOk X.K cl C.own X elt etg eit eifs scope own tg (itF Φ kk it) (denAnd Φ ifs) (denX Φ ee) :=
        ⟨o.calm, hnd, sndi [] kk it C X eit etg o.toXO t h3, ok, fun s H A cll fp => (tg_of (o.toXO.blk s H scope cll A fp) tg etg h2).1, fun s H A cll fp => sndif ifs (inBlk C scope) (X.blk s H scope (compEnvC scope cll A X.env) fp) eifs (o.toXO.blk s H scope cll A fp) t h5,
          fun s H A cll fp => (snd ee (inBlk C scope) (X.blk s H scope (compEnvC scope cll A X.env) fp) elt (o.toXO.blk s H scope cll A fp) t h6).1.ev false fun _ => h7, h4, fun i hi => List.contains_iff_mem.mp (List.all_eq_true.mp h8 i hi)⟩
      have hl : X.env.scope.names.lookup x = some .local := Classical.byContradiction fun z => hsw (sw_lc2 z o.kind)
      have hs : lcSw x p lpos scope = true := by
        cases z : lcSw x p lpos scope with
        | true => rfl
        | false => exact absurd (sw_lc z o.kind hl) hsw
      refine tS_congr (rs_setLc L N.ix o.kind hl hs (h := h) hq) fun δ S => hcg (fun δ S => ?_) δ S
      have e1 : denX Φ (.comp ee tg kk it ifs (own.map (·.2))) δ S = (do
        let ds ← denXs Φ it δ
        let items ← M.ofO (itemsOf kk ds)
        let l ← compL (compF tg (own.map (·.2)) (denAnd Φ ifs) (denX Φ ee) δ) items
        if items.length < line then pure (.lst l) else M.no : M D) S := rfl
      rw [e1]
      unfold lcF itF
      simp only [M.bind_run]
      cases denXs Φ it δ S <;> rfl
    | SetComp _ _ _ _ => cases e <;> first | cases hc | (cases hn; done)
    | DictComp _ _ _ _ _ => cases e <;> first | cases hc | (cases hn; done)
    | _ => exact absurd rfl hsw
theorem par_of {X : Cx} {C : Cs} (o : XS X.prog X.w X.K X.mg X.base C k X) (t : TO X.prog X.w X.K X.mg X.base k T Φ cl) : ∀ {is : List Nat} {ts : List Expr} {xs : List RF.X} {es : List Expr}, parB C T is ts xs = true → chks T C xs es = true → es.all okShape = true →
    PA X es (tN X.K cl C.own (is.map fun i => decide (i ∈ C.own)) (denXs Φ xs))
  | [], ts, xs, es, h, hc, hs => by
    cases ts <;> cases xs <;> first | cases h | skip
    cases es <;> first | cases hc | skip
    exact na_nil
  | i :: is, ts, xs, es, h, hc, hs => by
    cases ts with
    | nil => cases h
    | cons te ts =>
      cases te <;> first | cases h | skip
      cases xs with
      | nil => cases h
      | cons a xs =>
        cases es with
        | nil => cases hc
        | cons e es =>
          rename_i x px
          simp only [parB, Bool.and_eq_true] at h
          simp only [chks, Bool.and_eq_true] at hc
          rw [List.all_cons, Bool.and_eq_true] at hs
          obtain ⟨h1, h2, h3, h4⟩ := h
          have sa := (snd a C X e o.toXO t hc.1).1
          have hr := par_of o t h4 hc.2 hs.2
          rw [List.map_cons]
          by_cases hi : i ∈ C.own
          · rw [List.contains_iff_mem.mpr hi] at h3
            rw [decide_eq_true hi]
            exact na_own (sa.nw h3) hr hs.1
          · have hi' : C.own.contains i = false := by
              cases z : C.own.contains i with
              | false => rfl
              | true => exact absurd (List.contains_iff_mem.mp z) hi
            rw [hi'] at h3
            rw [decide_eq_false hi]
            exact na_giv (sa.ev false fun _ => h3) hr hs.1
theorem contains_not {l : List Nat} {i : Nat} (h : (!l.contains i) = true) : i ∉ l := fun z => by
  rw [List.contains_iff_mem.mpr z] at h
  cases h
theorem okShape_lc {e : Expr} (h : okSw e = false) : okShape e = true := by
  cases e <;> first | rfl | cases h
mutual
theorem sndS : ∀ (s : S) (C : Cs) (X : Cx) (e : Stmt), XS X.prog X.w X.K X.mg X.base C k X → TO X.prog X.w X.K X.mg X.base k T Φ cl → chkS T C nw Mu s e = true → PS X e (tS X.K cl C.own nw Mu (denS Φ Nf s))
  | .asg (.nm i) e, C, X, st, o, t, h => by
    cases st <;> first | cases h | skip
    rename_i tgs ex pos
    rcases tgs with _ | ⟨tg, _ | ⟨_, _⟩⟩
    · cases h
    · cases tg <;> first | cases h | skip
      rename_i x p
      simp only [chkS, Bool.and_eq_true] at h
      obtain ⟨h1, h2, h3⟩ := h
      have N := nm_of o h1
      have fin : ∀ δ S, (do
        let d ← denX Φ e δ
        pure (.nx (← M.ofO (bindT (.nm i) d δ))) : M Fl) S = denS Φ Nf (.asg (.nm i) e) δ S := fun δ S => rfl
      have hcg : ∀ {f g : En → M D}, (∀ δ S, f δ S = g δ S) → ∀ δ S, ((do
        let d ← f δ
        pure (.nx (← M.ofO (bindT (.nm i) d δ))) : M Fl) S) = (do
        let d ← g δ
        pure (.nx (← M.ofO (bindT (.nm i) d δ))) : M Fl) S := fun z δ S => by simp only [M.bind_run, z]
      by_cases hi : i ∈ C.own
      · rw [List.contains_iff_mem.mpr hi] at h3
        exact tS_congr (set_new o t N h2 h3 (h := fun f δ => do
          let d ← f δ
          pure (.nx (← M.ofO (bindT (.nm i) d δ)))) hcg fun s q => own_ok hi s q) fin
      · have hi' : C.own.contains i = false := by
          cases z : C.own.contains i with
          | false => rfl
          | true => exact absurd (List.contains_iff_mem.mp z) hi
        rw [hi'] at h3
        by_cases hsw : okSw ex = true
        · exact tS_congr (rs_asg ((snd e C X ex o.toXO t h2).1.ev false fun _ => h3) (rg_name N.nd N.ix N.loc N.fn hi) hsw rfl rfl) fin
        · cases ex <;> first | exact absurd rfl hsw | skip
          · cases e <;> first | cases h2 | skip
            case mkx => exact absurd h2 (by simp [chk, okSw])
            exact tS_congr (set_new o t N h2 rfl (h := fun f δ => do
              let d ← f δ
              pure (.nx (← M.ofO (bindT (.nm i) d δ)))) hcg fun s q => giv_ok hi s q) fin
          · cases e <;> first | cases h2 | exact absurd h2 (by simp [chk, okSw])
          · cases e <;> first | cases h2 | exact absurd h2 (by simp [chk, okSw])
    · cases tg <;> cases h
  | .asg (.tup ts) e, C, X, st, o, t, h => by
    cases st <;> first | cases h | skip
    rename_i tgs ex pos
    rcases tgs with _ | ⟨tg, _ | ⟨_, _⟩⟩ <;> first | cases h | skip
    simp only [chkS, Bool.and_eq_true] at h
    obtain ⟨h1, h2, h3, h4, h5⟩ := h
    obtain ⟨g1, g2⟩ := tg_of (cl := cl) o.toXO _ _ h1
    exact rs_asg ((snd e C X ex o.toXO t h2).1.ev false fun _ => h3) g1 h4 (noSw_of (by rw [o.sc]; exact h5)) g2
  | .asgI i e, C, X, st, o, t, h => by
    cases st <;> first | cases h | skip
    rename_i tgs ex pos
    rcases tgs with _ | ⟨tg, _ | ⟨_, _⟩⟩
    · cases h
    · cases tg <;> first | cases h | skip
      simp only [chkS, Bool.and_eq_true] at h
      obtain ⟨h1, h2, h3, h4, h5⟩ := h
      exact rs_asgI (nm_of o h1) (List.contains_iff_mem.mp h3) ((snd e C X ex o.toXO t h2).1.ev false fun _ => h4) h5
    · cases tg <;> cases h
  | .mk i e, C, X, st, o, t, h => by
    cases st <;> first | cases h | skip
    rename_i tgs ex pos
    rcases tgs with _ | ⟨tg, _ | ⟨_, _⟩⟩
    · cases h
    · cases tg <;> first | cases h | skip
      simp only [chkS, Bool.and_eq_true] at h
      obtain ⟨h1, h2, h3, h4⟩ := h
      exact tS_congr (set_new o t (nm_of o h1) h2 h4 (h := fun f δ => do
        let d ← f δ
        fun s => match bindT (.nm i) (.obj s.length) δ with
          | some δ' => .ok (.nx δ') (s ++ [d])
          | none => .no) (fun z δ S => by simp only [M.bind_run, z]) fun s q => sto_ok (contains_not h3) s q) fun δ S => rfl
    · cases tg <;> cases h
  | .par is xs, C, X, st, o, t, h => by
    cases st <;> first | cases h | skip
    rename_i tgs ex pos
    rcases tgs with _ | ⟨tg, _ | ⟨_, _⟩⟩
    · cases h
    · cases tg <;> first | cases h | skip
      cases ex <;> first | cases h | skip
      rename_i ts k1 pt es k2 p2
      simp only [chkS, Bool.and_eq_true, Bool.or_eq_true, decide_eq_true_eq, Bool.not_eq_true'] at h
      obtain ⟨h1, h2, h3, h4, h5, h6, h7, h8⟩ := h
      have hp := par_of o t h3 h5 h6
      have hnd : X.N.Nodup := by rw [o.N]; exact o.nd
      have one : ∀ {i : Nat} {is : List Nat} {ts : List Expr} {xs : List RF.X}, parB C T (i :: is) ts xs = true → ∃ x px ts' a xs', ts = .Name x px :: ts' ∧ xs = a :: xs' ∧ X.N[i]? = some x ∧ X.env.scope.names.lookup x = some .local ∧ parB C T is ts' xs' = true := fun {i is ts xs} z => by
        cases ts with
        | nil => cases z
        | cons te ts =>
          cases te <;> first | cases z | skip
          cases xs with
          | nil => cases z
          | cons a xs =>
            simp only [parB, Bool.and_eq_true] at z
            exact ⟨_, _, _, _, _, rfl, rfl, by rw [o.N]; exact beq_iff_eq.mp z.1, ploc_of o.toXO z.2.1, z.2.2.2⟩
      have nil : ∀ {ts : List Expr} {xs : List RF.X}, parB C T [] ts xs = true → ts = [] ∧ xs = [] := fun {ts xs} z => by
        cases ts <;> cases xs <;> first | exact ⟨rfl, rfl⟩ | cases z
      have two : ∀ {l : List RF.X} {es : List Expr}, chks T C l es = true → l.length = es.length := fun {l es} z => (sndl l C X es o.toXO t z).2
      match is, h1 with
      | [i, j], _ =>
        obtain ⟨x, px, ts1, a, xs1, rfl, rfl, gx, lx, z1⟩ := one h3
        obtain ⟨y, py, ts2, b, xs2, rfl, rfl, gy, ly, z2⟩ := one z1
        obtain ⟨rfl, rfl⟩ := nil z2
        have hl := two h5
        match es, hl with
        | [ea, eb], _ =>
          have hij : i ≠ j := by simpa using h2
          simp only [linesB, Bool.and_eq_true] at h4
          exact tS_congr (rs_par2 o.calm hnd gx gy hij o.kind lx ly h4.2.1 h6 h7 h8 hp) fun δ S => rfl
      | [i, j, l], _ =>
        obtain ⟨x, px, ts1, a, xs1, rfl, rfl, gx, lx, z1⟩ := one h3
        obtain ⟨y, py, ts2, b, xs2, rfl, rfl, gy, ly, z2⟩ := one z1
        obtain ⟨z, pz, ts3, c, xs3, rfl, rfl, gz, lz, z3⟩ := one z2
        obtain ⟨rfl, rfl⟩ := nil z3
        have hl := two h5
        match es, hl with
        | [ea, eb, ec], _ =>
          have hij : (i ≠ j ∧ i ≠ l) ∧ j ≠ l := by simpa using h2
          simp only [linesB, Bool.and_eq_true] at h4
          exact tS_congr (rs_par3 o.calm hnd gx gy gz hij.1.1 hij.1.2 hij.2 o.kind lx ly lz h4.2.1 h4.2.2.1 h6 h7 h8 hp) fun δ S => rfl
      | [], h1 => exact absurd h1 (by simp)
      | [_], h1 => exact absurd h1 (by simp)
      | _ :: _ :: _ :: _ :: _, h1 => exact absurd h1 (by simp)
    · cases tg <;> cases h
  | .setIx i kx e, C, X, st, o, t, h => by
    cases st <;> first | cases h | skip
    rename_i tgs ex pos
    rcases tgs with _ | ⟨tg, _ | ⟨_, _⟩⟩
    · cases h
    · cases tg <;> first | cases h | skip
      rename_i eo ek p
      cases eo <;> first | cases h | skip
      simp only [chkS, Bool.and_eq_true] at h
      obtain ⟨h1, h2, h3, h4, h5, h6, h7, h8⟩ := h
      have V := var_of o.toXO h1
      exact rs_setIx V.ix V.vis V.dbg V.cd (List.contains_iff_mem.mp h2) (List.contains_iff_mem.mp h3) (hu_cmp o.room) ((snd e C X ex o.toXO t h5).1.ev false fun _ => h4) ((snd kx C X ek o.toXO t h6).1.ev true fun z => nomatch z) h7 (sub_asg h8)
    · cases tg <;> first | cases h | skip
      rename_i eo ek p
      cases eo <;> cases h
  | .setOb i kx e, C, X, st, o, t, h => by
    cases st <;> first | cases h | skip
    rename_i tgs ex pos
    rcases tgs with _ | ⟨tg, _ | ⟨_, _⟩⟩
    · cases h
    · cases tg <;> first | cases h | skip
      rename_i eo ek p
      cases eo <;> first | cases h | skip
      simp only [chkS, Bool.and_eq_true] at h
      obtain ⟨h1, h4, h5, h6, h7, h8⟩ := h
      have V := var_of o.toXO h1
      exact rs_setOb V.ix V.vis V.dbg V.cd (hu_cmp o.room) ((snd e C X ex o.toXO t h5).1.ev false fun _ => h4) ((snd kx C X ek o.toXO t h6).1.ev true fun z => nomatch z) h7 (sub_asg h8)
    · cases tg <;> first | cases h | skip
      rename_i eo ek p
      cases eo <;> cases h
  | .obT i kx j e, C, X, st, o, t, h => by
    cases st <;> first | cases h | skip
    rename_i tgs ex pos
    rcases tgs with _ | ⟨tg, _ | ⟨_, _⟩⟩
    · cases h
    · cases tg <;> first | cases h | skip
      rename_i ts kt pt
      rcases ts with _ | ⟨t1, _ | ⟨t2, _ | ⟨_, _⟩⟩⟩
      · cases h
      · cases t1 <;> first | cases h | skip
        rename_i eo ek p
        cases eo <;> cases h
      · cases t1 <;> first | cases h | skip
        rename_i eo ek p
        cases eo <;> first | cases h | skip
        cases t2 <;> first | cases h | skip
        simp only [chkS, Bool.and_eq_true] at h
        obtain ⟨h1, h2, h3, h4, h5, h6, h7, h8, h9⟩ := h
        have V := var_of o.toXO h1
        have N := nm_of o h2
        refine tS_congr (rs_obT V.ix V.vis V.dbg V.cd (hu_cmp o.room) o.calm N.nd N.ix N.loc N.fn (contains_not h3) ((snd e C X ex o.toXO t h5).1.ev false fun _ => h4) ((snd kx C X ek o.toXO t h6).1.ev true fun z => nomatch z) h7 (noSw_of (by rw [o.sc]; exact h9)) (sub_asg h8)) fun δ S => rfl
      · cases t1 <;> first | cases h | skip
        rename_i eo ek p
        cases eo <;> first | cases h | skip
        cases t2 <;> cases h
    · cases tg <;> first | cases h | skip
      rename_i ts kt pt
      rcases ts with _ | ⟨t1, _ | ⟨t2, _ | ⟨_, _⟩⟩⟩ <;> first | cases h | skip
      all_goals cases t1 <;> first | cases h | skip
      all_goals (rename_i eo ek p; cases eo <;> first | cases h | skip)
      all_goals cases t2 <;> cases h
  | .app i e, C, X, st, o, t, h => by
    cases st <;> first | cases h | skip
    rename_i ec pos
    cases ec <;> first | cases h | skip
    rename_i fe es kws p
    cases fe <;> first | cases h | skip
    rename_i eo m apos
    cases eo <;> first | cases h | skip
    rcases es with _ | ⟨ex, _ | ⟨_, _⟩⟩ <;> first | cases h | skip
    cases kws <;> first | cases h | skip
    simp only [chkS, Bool.and_eq_true] at h
    obtain ⟨h0, h1, h2, h3, h4, h5, h6, h7⟩ := h
    have V := var_of o.toXO h1
    have e0 := beq_iff_eq.mp h0
    subst e0
    exact rs_app V.ix V.vis V.dbg V.cd (List.contains_iff_mem.mp h2) (List.contains_iff_mem.mp h3) ((snd e C X ex o.toXO t h5).1.ev false fun _ => h4) h6 h7
  | .ex e, C, X, st, o, t, h => by
    cases st <;> first | cases h | skip
    rename_i ex pos
    simp only [chkS, Bool.and_eq_true] at h
    exact rs_expr ((snd e C X ex o.toXO t h.1).1.ev true fun z => nomatch z) h.2
  | .iff c a b, C, X, st, o, t, h => by
    cases st <;> first | cases h | skip
    rename_i ec ea eb pos
    simp only [chkS, Bool.and_eq_true] at h
    refine tS_congr (rs_if (snd c C X ec o.toXO t h.1).2.t (sndSs a C X ea o t h.2.1) (sndSs b C X eb o t h.2.2)) fun δ S => ?_
    simp only [denS, M.bind_run]
    cases denX Φ c δ S <;> rfl
  | .forr tg kk it body, C, X, st, o, t, h => by
    cases st <;> first | cases h | skip
    rename_i etg eit eb els pos
    cases els <;> first | cases h | skip
    simp only [chkS, Bool.and_eq_true] at h
    obtain ⟨h1, h2, h3, h4⟩ := h
    refine tS_congr (rs_for o.pass o.calm (sndi Mu kk it C X eit etg o.toXO t h2) (tg_of o.toXO tg etg h1).1 (sndSs body C X eb o t h4) h3) fun δ S => ?_
    have e1 : denS Φ Nf (.forr tg kk it body) δ S = (do
      let ds ← denXs Φ it δ
      let items ← M.ofO (itemsOf kk ds)
      forL (fun d δ' => do
        let δ'' ← M.ofO (bindT tg d δ')
        denSs Φ Nf body δ'') items δ : M Fl) S := rfl
    rw [e1]
    unfold itF
    simp only [M.bind_run]
    cases denXs Φ it δ S <;> rfl
  | .whl c body, C, X, st, o, t, h => by
    cases st <;> first | cases h | skip
    rename_i ec eb els pos
    cases els <;> first | cases h | skip
    simp only [chkS, Bool.and_eq_true] at h
    exact rs_while o.pass (snd c C X ec o.toXO t h.1).2.t (sndSs body C X eb o t h.2)
  | .ret none, C, X, st, o, t, h => by
    cases st <;> first | cases h | skip
    rename_i v pos
    cases v <;> first | cases h | skip
    simp only [chkS, Bool.not_eq_true'] at h
    subst h
    exact rs_retN
  | .ret (some e), C, X, st, o, t, h => by
    cases st <;> first | cases h | skip
    rename_i v pos
    cases v <;> first | cases h | skip
    rename_i ex
    simp only [chkS, Bool.and_eq_true] at h
    have sn := (snd e { C with own := [] } X ex ⟨o.prog, o.w, o.K, o.mg, o.base, o.N, o.nd, o.sc, o.calm, o.room, o.gd, o.fb⟩ t h.1).1
    have h2 := h.2
    cases nw with
    | true =>
      simp only [if_true] at h2
      exact rs_retX (sn.nw h2)
    | false =>
      simp only [Bool.false_eq_true, if_false] at h2
      exact rs_ret (sn.ev false fun _ => h2)
  | .retO i, C, X, st, o, t, h => by
    cases st <;> first | cases h | skip
    rename_i v pos
    cases v <;> first | cases h | skip
    rename_i ex
    cases ex <;> first | cases h | skip
    simp only [chkS, Bool.and_eq_true] at h
    obtain ⟨h0, h1, h2⟩ := h
    subst h0
    have V := var_of o.toXO h1
    exact rs_retO V.ix V.vis V.dbg V.cd (List.contains_iff_mem.mp h2)
  | .never, C, X, st, o, t, h => rs_never
  | .pass, C, X, st, o, t, h => by
    cases st <;> first | cases h | skip
    · rename_i ex pos
      cases ex <;> first | cases h | skip
      rename_i c j p
      cases c <;> first | cases h | skip
      exact rs_doc
    · exact rs_pass
  | .brk, C, X, st, o, t, h => by
    cases st <;> first | cases h | skip
    exact rs_break
theorem sndSs : ∀ (l : List S) (C : Cs) (X : Cx) (es : List Stmt), XS X.prog X.w X.K X.mg X.base C k X → TO X.prog X.w X.K X.mg X.base k T Φ cl → chkSs T C nw Mu l es = true → PSs X es (tS X.K cl C.own nw Mu (denSs Φ Nf l))
  | [], C, X, es, o, t, h => by
    cases es <;> first | cases h | skip
    exact rss_nil
  | s :: l, C, X, es, o, t, h => by
    cases es <;> first | cases h | skip
    rename_i e es
    simp only [chkSs, Bool.and_eq_true] at h
    exact tSs_congr (rss_cons (sndS s C X e o t h.1) (sndSs l C X es o t h.2)) fun δ S => rfl
end
end
end RF
end
section
set_option linter.all false
set_option maxRecDepth 100000
set_option maxHeartbeats 4000000
set_option autoImplicit false
/-! RfEnd: a law's end. -/
namespace RF
open PySem PySem.Spec L2
open PyProof.Rows hiding St

theorem rf_call {P : Program} {w : World} {K : PySem.W.Frag} {mg mb : Str → Option Value} {k : Nat} {fa a : Addr} {fd : FuncData} {x : Str} {sp : Sp} {sB : Shared} {us : List Value} {zs : List Int}
    (KX : K.In sB.heap) (gN : sB.heap.Ns mainGlobals mg) (bN : sB.heap.Ns builtinsNs mb) (bE : ∀ x : Str, x ≠ "__name__" → mb x = bootBuiltins x) (nL : sB.heap.NoLimit) (g0 : sB.gens = #[])
    (aO : sB.heap.get? a = some { cls := .type "list", data := .seq us.toArray }) (iA : IntsAre us zs) (lN : zs.length ≤ sizeLine) (rM : Room k callerA)
    (F : ∀ base : Heap, K.In base → base.Ns mainGlobals mg → FnR P w K mg base k fa fd [x] sp) (bT : ∀ (s : Shared) (w1 : Value), BindsTo s fd ⟨[w1], []⟩ [(x, w1)])
    (pS : ∀ H : Hp, Only H → SqL K H a (zs.map V.int) → sp [.ref a] H (fun v _ => v = .bl true) fun _ _ _ => False)
    :
    codeAny (model P w) callerA (.call (.ref fa) ⟨[.ref a], []⟩) (fun r s' => r = .ok (.ret (.bool true)) ∧ OldK sB.heap s'.heap ∧ s'.os = sB.os ∧ AllBare s'.gens) sB := by
  have rU := vals_ints iA
  have lU := iA.length
  -- from an abstract heap in which nothing but the script may be tracked
  have main : ∀ H : Hp, Only H → SqL K H a (zs.map V.int) → HOk P w H sB.heap → (∀ c, H c ≠ none → c = a) → (H a ≠ none → K.lookup a = none) →
      codeAny (model P w) callerA (.call (.ref fa) ⟨[.ref a], []⟩) (fun r s' => r = .ok (.ret (.bool true)) ∧ OldK sB.heap s'.heap ∧ s'.os = sB.os ∧ AllBare s'.gens) sB := by
    intro H oH sH kH onlyA offK
    have inBase : ∀ {c : Addr} {oj : Obj}, sB.heap.get? c = some oj → H c = none → (hidT sB.heap H).get? c = some oj := fun e n => hidT_get e n
    have noDict : ∀ {c : Addr} {oj : Obj} {es : Array DictEntry} {ep : Nat}, sB.heap.get? c = some oj → oj.data = .dict es ep → H c = none := fun {c oj es ep} e d => by
      cases q : H c with
      | none => rfl
      | some w1 =>
        have e' : c = a := onlyA c (by rw [q]; simp)
        subst e'
        rw [aO] at e; cases e
        have d' : Data.seq us.toArray _ = Data.dict es ep := d
        cases d'
    have nsB : ∀ {c : Addr} {m : Str → Option Value}, sB.heap.Ns c m → (hidT sB.heap H).Ns c m := fun {c m} ⟨oj, es, ep, e, d, r⟩ => ⟨oj, es, ep, inBase e (noDict e d), d, r⟩
    have kB : K.In (hidT sB.heap H) := fun c oj e => inBase (KX c oj e) (by
      cases q : H c with
      | none => rfl
      | some w1 =>
        have e' : c = a := onlyA c (by rw [q]; simp)
        subst e'
        rw [offK (by rw [q]; simp)] at e; cases e)
    have mB : Mod K mg (hidT sB.heap H) := ⟨kB, nsB gN, ⟨mb, nsB bN, bE⟩, let ⟨mc, h1, h2⟩ := nL; ⟨mc, nsB h1, h2⟩⟩
    have envB : Env0 P w K mg (hidT sB.heap H) callerA [] sB H := ⟨rfl, mB, fun c oj e => of_hidT e, Nat.le_of_eq (hidT_size _ _), trivial, fun c bN => absurd (show c ∈ ([] : List Addr) from bN) (by simp), kH, .of_eq g0⟩
    refine codeAny_mono ((F _ kB (nsB gN)).run callerA [] sB H ⟨[.ref a], []⟩ [.ref a] [.ref a] _ _ rM rfl envB (bT sB (.ref a)) (.cons rfl .nil) (pS H oH sH)) fun r s' h => ?_
    cases r with
    | error e => exact h.elim
    | ok fl =>
      cases fl with
      | next => exact False.elim h
      | brk => exact False.elim h
      | cont => exact False.elim h
      | ret w1 =>
        obtain ⟨v, H', os, bare, un, kH', r', q⟩ := h
        have q' : v = .bl true := q
        subst q'
        obtain rfl : w1 = Value.bool true := r'
        refine ⟨rfl, OldK.of_keep fun c oj e => ?_, os, bare⟩
        cases q : H c with
        | none => exact un.keep c oj e q (by intro z; exact absurd (show c ∈ ([] : List Addr) from z) (by simp)) (by simp)
        | some w1 =>
          rcases oH c with z | ⟨oj, xs, z⟩
          · rw [q] at z; cases z
          · have z2 := un.frzs c oj _ z
            obtain ⟨e1, _⟩ := kH c _ z
            obtain ⟨e2, _⟩ := kH' c _ z2
            rw [e] at e1; cases e1
            exact e2
  cases hk : K.lookup a with
  | some oj =>
    -- the script is one of the module's own objects
    have e := KX a oj hk
    rw [aO] at e
    cases e
    refine main (fun _ => none) (fun _ => .inl rfl) (.inr ⟨_, us.toArray, _, hk, rfl, rfl, rfl, by rw [List.size_toArray, lU]; exact lN, by simpa using rU⟩) (fun c w1 z => by have z' : (none : Option HO) = some w1 := z; cases z') (fun c z => absurd rfl z) fun z => absurd rfl z
  | none =>
    refine main (fun c => if c = a then some (.frz { cls := .type "list", data := .seq us.toArray } (.lst (zs.map V.int))) else none) (fun c => ?_) (.inl (.inr ⟨{ cls := .type "list", data := .seq us.toArray }, if_pos rfl⟩)) (fun c w1 z => ?_) (fun c z => ?_) fun _ => hk
    · by_cases bN : c = a
      · exact .inr ⟨_, _, if_pos bN⟩
      · exact .inl (if_neg bN)
    · by_cases bN : c = a
      · have z' := (if_pos bN).symm.trans z
        cases z'
        subst bN
        exact ⟨aO, by rw [List.length_map]; exact lN, us, _, rU, aO⟩
      · have z' := (if_neg bN).symm.trans z
        cases z'
    · by_cases bN : c = a
      · exact bN
      · exact absurd (if_neg bN) z

/-- the script, as the law is given it -/
theorem script_rep {K : PySem.W.Frag} {cl : Nat → Addr} {H : Hp} {a : Addr} {ns : List Int} (o : Only H) (h : SqL K H a (ns.map V.int)) : Rep K cl ⟨[], fun _ => none, fun _ => False⟩ H (.ref a) (.frz (ns.map D.int)) := by
  have hb : ∀ b, ¬ Wd.bar ⟨[], fun _ => none, fun _ => False⟩ b := fun b z => by
    rcases z with z | ⟨i, z⟩ | z
    · cases z
    · cases z
    · exact z
  have he : ∀ (i : Nat) (v : V) (d : D), (ns.map V.int)[i]? = some v → (ns.map D.int)[i]? = some d → Rep K cl ⟨[], fun _ => none, fun _ => False⟩ H v d := fun i v d h1 h2 => by
    rw [List.getElem?_map] at h1 h2
    cases e : ns[i]? with
    | none => rw [e] at h1; cases h1
    | some n => rw [e] at h1 h2; cases h1; cases h2; exact .int n
  rcases h with (h | ⟨ob, h⟩) | h
  · rcases o a with z | ⟨_, _, z⟩ <;> (rw [h] at z; cases z)
  · exact .frz (.inl ⟨ob, h, hb a⟩) (by simp) he
  · exact .frz (.inr (.inr h)) (by simp) he
theorem rf_walk {l : PySem.W.OpenLaw} {n k : Nat} {q : Program} {loose : List Str} {XP : (Str → Option Value) → Heap → Prop} {YP : World → Heap → Prop} {d : DefRec} {x : Str} (hn : l.most = some n) (hn2 : n ≤ sizeLine) (hdf : d.params.defaults = []) (rM : Room k callerA)
    (F : ∀ (w : World) (mg : Str → Option Value) (fa : Addr) (h : Heap), YP w h → h.Ns mainGlobals mg → mg d.name = some (.ref fa) → ∃ (K : PySem.W.Frag) (fd : FuncData) (cl : Nat → Addr) (g : List D → M D), K.In h ∧ (∀ (s : Shared) (u : Value), BindsTo s fd ⟨[u], []⟩ [(x, u)]) ∧
      (∀ ns : List Int, ns.length ≤ n → ∃ S, g [.frz (ns.map D.int)] [] = .ok (.bl true) S) ∧ ∀ base : Heap, K.In base → base.Ns mainGlobals mg → FnR l.prog w K mg base k fa fd [x] (spOf K cl 1 g)) :
    PySem.W.WalkO q loose XP YP l.row.toRowW d [] (fun f vs => PySem.call f vs) := by
  refine Att.attach_call hn hdf fun w sA sB mg mb fa o pm cd doc a us zs G Y ho hd hcd hmg hobj hints hlen hg => ?_
  obtain ⟨K, fd, cl, g, KX, hb, hlaw, hF⟩ := F w mg fa _ Y G.T.g hmg
  refine rf_call KX G.T.g G.T.b G.T.builtins G.T.nolimit hg hobj hints (Nat.le_trans hlen hn2) rM hF hb fun H oH sH => ?_
  obtain ⟨S, e⟩ := hlaw zs hlen
  refine ⟨⟨[], fun _ => none, fun _ => False⟩, [.frz (zs.map D.int)], [], rfl, ⟨List.nodup_nil, (fun a z => nomatch z), (fun i a z => nomatch z), (fun i j a z => nomatch z), fun a z => z.elim⟩, ⟨rfl, fun n a d z => by simp at z⟩, rfl, RepL.cons (script_rep oH sH) RepL.nil, ?_⟩
  rw [e]
  intro ω' v H' _ _ _ r
  cases r
  rfl
end RF
end
section
set_option linter.all false
set_option maxRecDepth 100000
set_option maxHeartbeats 4000000
set_option autoImplicit false
/-! RfFd: the defs of a program, one after another. -/
namespace RF
open PySem PySem.Spec L2
open PyProof.Rows hiding St

/-- a def: its text, and the term -/
structure Fd where
  x : Str
  params : Arguments
  code : List Stmt
  scope : Scope
  N : List Str
  ar : Nat
  own : List Nat
  Mu : List Nat
  nw : Bool
  fuel : Nat
  body : List S
abbrev Fd.ps (d : Fd) : List Str := d.N.take d.ar
abbrev Fd.dd (d : Fd) : He.DefD := ⟨(d.x, none), d.x, d.x, d.params, d.code, d.scope, [], []⟩
def Fd.run (d : Fd) (Φ : Fns) (ds : List D) : M D := if d.nw then runN (denSs Φ d.fuel d.body) d.N.length ds else runB (denSs Φ d.fuel d.body) d.N.length ds
/-- the defs known: the last one first -/
def phi (B : Fns) : List (Nat × Fd) → Fns
  | [] => { B with fn := fun _ _ => M.no }
  | (n, d) :: r => { B with fn := fun j => if j = n then d.run (phi B r) else (phi B r).fn j }
def tabF (L : List (Nat × Fd)) : List (Nat × Str × Nat × Bool × List Str) := L.map fun p => (p.1, p.2.x, p.2.ar, p.2.nw, p.2.ps)

def scB (N ps : List Str) (sc : Scope) : Bool := (match sc.kind with | .function => true | _ => false) && (!sc.isCoroutine && (!sc.isGenerator && (decide N.Nodup && (decide (N.take ps.length = ps) && (ps.all (locB sc) && sc.names.all fun y => match y.2 with | .free => false | _ => true)))))
def fdOk (T : Tb) (d : Fd) : Bool := simpB d.params d.ps && (scB d.N d.ps d.scope && (decide (d.ps.length = d.ar) && (d.own.all (fun i => decide (d.ar ≤ i)) && (dbgB d.x && chkSs T ⟨d.N, d.scope, d.own, fun _ => true⟩ d.nw d.Mu d.body d.code))))
def fdsOk (T : Tb) : List (Nat × Fd) → Bool
  | [] => true
  | (_, d) :: r => fdOk { T with fns := tabF r } d && fdsOk T r

section
theorem zip_lookup : ∀ {ps : List Str} {us : List Value}, ps.Nodup → us.length = ps.length → ∀ ms : List Str, (∀ m ∈ ms, m ∈ ps) → (ms.filter fun n => ((ps.zip us).lookup n).isNone) = [] := by
  intro ps us nd hl ms hm
  rw [List.filter_eq_nil_iff]
  intro n hn
  have h : ∀ {ps : List Str} {us : List Value}, us.length = ps.length → n ∈ ps → ((ps.zip us).lookup n).isSome = true := by
    intro ps
    induction ps with
    | nil => intro us _ h; cases h
    | cons p ps ih =>
      intro us hl h
      cases us with
      | nil => cases hl
      | cons u us =>
        rw [List.zip_cons_cons, List.lookup_cons]
        cases e : n == p with
        | true => rfl
        | false =>
          rcases List.mem_cons.mp h with z | z
          · rw [z] at e; simp at e
          · exact ih (by simpa using hl) z
  have := h hl (hm n hn)
  cases e : (ps.zip us).lookup n with
  | none => rw [e] at this; cases this
  | some u => simp
theorem zip_map : ∀ {ps : List Str} {us : List Value}, ps.Nodup → us.length = ps.length → (ps.filterMap fun n => ((ps.zip us).lookup n).map fun u => (n, u)) = ps.zip us := by
  have gen : ∀ (ps : List Str) (us : List Value) (qs : List Str) (ws : List Value), (qs ++ ps).Nodup → us.length = ps.length → ws.length = qs.length → (ps.filterMap fun n => (((qs ++ ps).zip (ws ++ us)).lookup n).map fun u => (n, u)) = ps.zip us := by
    intro ps
    induction ps with
    | nil => intro us qs ws _ _ _; rfl
    | cons p ps ih =>
      intro us qs ws nd hl hw
      cases us with
      | nil => cases hl
      | cons u us =>
        have e1 : (((qs ++ p :: ps).zip (ws ++ u :: us)).lookup p) = some u := by
          rw [List.zip_append hw.symm]
          have hq : (qs.zip ws).lookup p = none := by
            rw [List.lookup_eq_none_iff]
            intro z hz
            rw [List.nodup_append] at nd
            have hne := nd.2.2 z.1 (List.of_mem_zip hz).1 p (by simp)
            simpa using fun e => hne e.symm
          rw [List.lookup_append, hq]
          simp [List.lookup_cons]
        rw [List.filterMap_cons, e1]
        simp only [Option.map_some, List.zip_cons_cons, List.cons.injEq, true_and]
        have := ih us (qs ++ [p]) (ws ++ [u]) (by simpa using nd) (by simpa using hl) (by simp [hw])
        simpa using this
  intro ps us nd hl
  exact gen ps us [] [] nd hl rfl
theorem bind_simple {x qual : Str} {params : Arguments} {body : List Stmt} {scope : Scope} {ps : List Str} (h : simpB params ps = true) (nd : ps.Nodup) (kV doc pm : Value) (an : Option Addr) (cdv ct : Value) (us : List Value) (hl : us.length = ps.length) :
    bindArgs (PySem.W.fnOf x qual params body scope .none kV doc pm an cdv ct) ⟨us, []⟩ = pure (ps.zip us) := by
  obtain ⟨po, ar, va, ko, kd, kw, df⟩ := params
  simp only [simpB, Bool.and_eq_true, List.isEmpty_iff, Option.isNone_iff_eq_none, decide_eq_true_eq] at h
  obtain ⟨rfl, rfl, rfl, rfl, h⟩ := h
  have h1 := zip_lookup nd hl ps fun m hm => hm
  have h2 := zip_map nd hl
  unfold bindArgs PySem.W.fnOf
  simp only [h, List.map_nil, List.nil_append, List.append_nil]
  have h3 : ¬ ps.length < ps.length := Nat.lt_irrefl _
  simp [seqItems?, hl, h1, h2]
  rfl
theorem sc_of {N ps : List Str} {sc : Scope} (h : scB N ps sc = true) : FnScope N ps sc := by
  simp only [scB, Bool.and_eq_true, Bool.not_eq_true', decide_eq_true_eq, List.all_eq_true] at h
  obtain ⟨h1, h2, h3, h4, h5, h6, h7⟩ := h
  refine ⟨?_, h2, h3, h4, h5, fun x hx => ?_, fun y hy e => ?_⟩
  · split at h1
    · assumption
    · cases h1
  · have := h6 x hx
    unfold locB at this
    split at this
    · exact .inl ‹_›
    · exact .inr ‹_›
    · cases this
  · have := h7 y hy
    rw [e] at this
    cases this
variable {P : Program} {w : World} {K : PySem.W.Frag} {mg : Str → Option Value} {base : Heap} {cl : Nat → Addr} {B : Fns} {T : Tb}
/-- a checked def's promise -/
theorem fd_ok {k : Nat} {d : Fd} {Φ : Fns} {a : Addr} {fd : FuncData} (hT : TO P w K mg base k T Φ cl) (F : FunD K d.x d.x d.params d.code d.scope [] [] a fd) (h : fdOk T d = true) :
    FnR P w K mg base (k + 1) a fd d.ps (if d.nw = true then spOfN K cl d.ar (d.run Φ) else spOf K cl d.ar (d.run Φ)) ∧ (Binds K fd d.ps [] ∧ KwB fd d.ps) := by
  simp only [fdOk, Bool.and_eq_true, decide_eq_true_eq, List.all_eq_true] at h
  obtain ⟨h1, h2, h3, h4, h5, h6⟩ := h
  have Sc := sc_of h2
  have hnp : d.ps.Nodup := List.Nodup.sublist (List.take_sublist _ _) Sc.nd
  refine ⟨?_, F.bindsN fun kV doc pm an cdv ct us hl => bind_simple h1 hnp kV doc pm an cdv ct us hl, kwB F h1 hnp⟩
  have ho : ∀ i ∈ d.own, d.ps.length ≤ i := fun i hi => by rw [h3]; exact h4 i hi
  obtain ⟨oc, od, dV, kV, doc, pm, an, cdv, ct, osl, rfl, lk, hcd, _, _⟩ := F.ex
  have xs : ∀ (A : Around) (outer : List Env) (s : Shared) (H : Hp) (E : XK), Room k (A.deeper (envOfC d.x d.scope s.heap.objs.size a cdv)) → (A.deeper (envOfC d.x d.scope s.heap.objs.size a cdv)).guards = some [] →
      XS P w K mg base ⟨d.N, d.scope, d.own, fun _ => true⟩ k (cxOf CX0 P w K mg base d.N d.x d.scope a cdv A outer s H E).nox := fun A outer s H E hr gd =>
    ⟨⟨rfl, rfl, rfl, rfl, rfl, rfl, Sc.nd, rfl, rfl, hr, gd, fun _ _ => rfl⟩, Sc.kind, PassesOwn.never, fun _ => rfl⟩
  cases hn : d.nw with
  | true =>
    simp only [if_true]
    rw [hn] at h6
    have := fnn_body (cl := cl) (P := P) (w := w) (mg := mg) (base := base) (Mu := d.Mu) (F := denSs Φ d.fuel d.body) lk hcd Sc ho fun A outer s H E hr gd => sndSs d.body _ _ d.code (xs A outer s H E hr gd) hT h6
    have e : d.run Φ = runN (denSs Φ d.fuel d.body) d.N.length := by funext ds; simp [Fd.run, hn]
    rw [e, ← h3]
    exact this
  | false =>
    simp only [Bool.false_eq_true, if_false]
    rw [hn] at h6
    have := fnr_body (cl := cl) (P := P) (w := w) (mg := mg) (base := base) (Mu := d.Mu) (F := denSs Φ d.fuel d.body) lk hcd Sc ho fun A outer s H E hr gd => sndSs d.body _ _ d.code (xs A outer s H E hr gd) hT h6
    have e : d.run Φ = runB (denSs Φ d.fuel d.body) d.N.length := by funext ds; simp [Fd.run, hn]
    rw [e, ← h3]
    exact this
/-- all checked defs keep their promises -/
theorem fds_ok (hB : TO P w K mg base 0 { T with fns := [] } { B with fn := fun _ _ => M.no } cl) : ∀ {L : List (Nat × Fd)}, fdsOk T L = true → (∀ p ∈ L, ∃ a fd, FunD K p.2.x p.2.x p.2.params p.2.code p.2.scope [] [] a fd ∧ mg p.2.x = some (.ref a)) →
    TO P w K mg base L.length { T with fns := tabF L } (phi B L) cl
  | [], _, _ => hB
  | (n, d) :: L, h, hF => by
    simp only [fdsOk, Bool.and_eq_true] at h
    have ih := fds_ok hB h.2 fun p hp => hF p (List.mem_cons_of_mem _ hp)
    obtain ⟨a, fd, F, hm⟩ := hF (n, d) (by simp)
    obtain ⟨g1, g2⟩ := fd_ok ih F h.1
    have hdb : (d.x == ("__debug__" : Str)) = false := by
      have h1 := h.1
      simp only [fdOk, Bool.and_eq_true] at h1
      exact dbg_of h1.2.2.2.2.1
    refine ⟨fun f x ar nw ps e => ?_, ?_, ?_, ih.bls, ih.cls, ?_, ?_⟩
    · have e' : (if f == n then some (d.x, d.ar, d.nw, d.ps) else (tabF L).lookup f) = some (x, ar, nw, ps) := by
        have : List.lookup f (tabF ((n, d) :: L)) = some (x, ar, nw, ps) := e
        simp only [tabF, List.map_cons, List.lookup_cons] at this
        cases z : f == n with
        | true => rw [z] at this; simpa using this
        | false => rw [z] at this; simpa [tabF] using this
      by_cases z : f = n
      · subst z
        simp at e'
        obtain ⟨rfl, rfl, rfl, rfl⟩ := e'
        refine ⟨a, fd, hm, F.kp, g2, ?_, hdb⟩
        have e2 : (phi B ((f, d) :: L)).fn f = d.run (phi B L) := by simp [phi]
        rw [e2]
        exact g1
      · have z' : (f == n) = false := by simpa using z
        rw [z'] at e'
        simp only [Bool.false_eq_true, if_false] at e'
        obtain ⟨b, fd', k1, k2, k3, k4, k5⟩ := ih.fns f x ar nw ps e'
        have e2 : (phi B ((n, d) :: L)).fn f = (phi B L).fn f := by simp [phi, z]
        refine ⟨b, fd', k1, k2, k3, ?_, k5⟩
        rw [e2]
        exact k4.mono (Nat.le_succ _)
    · have e3 : (phi B ((n, d) :: L)).gl = (phi B L).gl := by
        cases L with
        | nil => rfl
        | cons p L => rfl
      intro i x dd e
      rw [e3]
      exact ih.gls i x dd e
    · have e3 : (phi B ((n, d) :: L)).tb = (phi B L).tb := by
        cases L with
        | nil => rfl
        | cons p L => rfl
      intro i x l e
      rw [e3]
      exact ih.tbs i x l e
    · have e3 : (phi B ((n, d) :: L)).nc = (phi B L).nc := by
        cases L with
        | nil => rfl
        | cons p L => rfl
      rw [e3]
      exact ih.kit
    · have e3 : (phi B ((n, d) :: L)).nc = (phi B L).nc := by
        cases L with
        | nil => rfl
        | cons p L => rfl
      rw [e3]
      exact ih.clk
end
end RF
end
section
set_option linter.all false
set_option maxRecDepth 100000
set_option maxHeartbeats 4000000
set_option autoImplicit false
/-! RfLaw: a law, from its checked defs and from what its term computes. -/
namespace RF
open PySem PySem.Spec L2
open PyProof.Rows hiding St

def dvOf : D → He.Dv
  | .bl b => .bl b
  | .int i => .int i
  | .str x => .str x
  | _ => .non
/-- the module's object at x has no dict of its own -/
def noDi (K : PySem.W.Frag) (x : Str) : Bool := match K.lookup (He.ga K x) with
  | some o => o.dict.isNone
  | none => false
theorem noDi_ok {K : PySem.W.Frag} {x : Str} {vs : List V} (h : noDi K x = true) (q : SqT K (fun _ => none) (He.ga K x) vs) (H : Hp) : PTu K H (He.ga K x) vs := by
  rcases q with (q | ⟨_, q⟩) | ⟨o, us, n, h1, h2, h3⟩
  · cases q
  · cases q
  · refine .inr ⟨o, us, n, h1, h2, ?_, h3⟩
    unfold noDi at h
    rw [h1] at h
    exact Option.isNone_iff_eq_none.mp h
/-- the module's name x is this constant -/
def gB (K : PySem.W.Frag) (x : Str) : D → Bool
  | .int i => (He.Fa.int x i).ok K
  | .str z => (He.Fa.str x z).ok K
  | .tup ds => (He.Fa.glo x).ok K && (He.tupB K x (ds.map dvOf) && (noDi K x && ds.all D.flat))
  | _ => false
/-- a written dict's entries -/
def vB : Value → D → Bool
  | .int i _, .int j => i == j
  | .str x _, .str y => x == y
  | _, _ => false
def entB : List DictEntry → List (Str × D) → Bool
  | [], [] => true
  | e :: r, (k, d) :: l => (match e.key with
    | .str x _ => x == k
    | _ => false) && (vB e.val d && entB r l)
  | _, _ => false
def tblB (K : PySem.W.Frag) (a : Addr) (l : List (Str × D)) : Bool := match K.lookup a with
  | some ⟨_, _, .dict es _, _⟩ => entB es.toList l
  | _ => false
abbrev Tbs : Type := List (Nat × Str × List (Str × D))
abbrev AlR : Type := He.AlD × Bool × List (Option (List (Option (Str × Int))))
def constB (gs : List (Nat × Str × D)) (ts : Tbs) (K : PySem.W.Frag) : Bool := (gs.all fun p => gB K p.2.1 p.2.2) && ts.all fun p => (He.Fa.glo p.2.1).ok K && tblB K (He.ga K p.2.1) p.2.2
def obsR (fa : List He.Fa) (fn : List He.DefD) (gs : List (Nat × Str × D)) (ts : Tbs) (K : PySem.W.Frag) : AlR := (He.obsD fa fn K, constB gs ts K, ts.map fun p => He.dicW K (He.ga K p.2.1))
def hookR (n : Nat) (fa : List He.Fa) (fn : List He.DefD) (gs : List (Nat × Str × D)) (ts : Tbs) : PySem.W.Hook where
  α := AlR
  obs := fun s => obsR fa fn gs ts (He.frG s.heap.get? (He.asD s.heap.get? n))
  val := fun w => (He.valD fn, true, ts.map fun p => some (He.keysIn w.params (p.2.2.map (·.1))))
  says := fun w h => ∃ K : PySem.W.Frag, K.In h ∧ (He.SaysD fa fn K ∧ (constB gs ts K = true ∧ (ts.map fun p => He.dicW K (He.ga K p.2.1)) = ts.map fun p => some (He.keysIn w.params (p.2.2.map (·.1)))))
  of := fun _ _ e => ⟨_, He.frG_in, congrArg Prod.fst e, congrArg (fun z => z.2.1) e, congrArg (fun z => z.2.2) e⟩
  keeps := fun _ _ _ ⟨K, hK, c⟩ k => ⟨K, PySem.W.Frag.In.keeps hK k, c⟩
def obR (n : Nat) (fa : List He.Fa) (fn : List He.DefD) (gs : List (Nat × Str × D)) (ts : Tbs) (s : PySem.W.SharedT) : AlR := obsR fa fn gs ts (He.frG (HandSHeadRun.getT s) (He.asD (HandSHeadRun.getT s) n))
theorem obR_eq {n : Nat} {fa : List He.Fa} {fn : List He.DefD} {gs : List (Nat × Str × D)} {ts : Tbs} (s : PySem.W.SharedT) : obR n fa fn gs ts s = (hookR n fa fn gs ts).obs s.abs := by
  have e : HandSHeadRun.getT s = s.abs.heap.get? := funext (HandSHeadRun.getT_eq s)
  unfold obR
  rw [e]
  rfl
section
variable {P : Program} {w : World} {K : PySem.W.Frag} {mg : Str → Option Value} {base h : Heap} {cl : Nat → Addr}
theorem gB_ok (X : K.In h) (G : h.Ns mainGlobals mg) {x : Str} {d : D} (c : gB K x d = true) : ∃ v u, mg x = some u ∧ RelV v u ∧ ∀ (ω : Wd) (H : Hp), Rep K cl ω H v d := by
  cases d with
  | int i =>
    obtain ⟨t, e⟩ := He.int_ok X G c
    exact ⟨.int i, _, e, ⟨t, rfl⟩, fun _ _ => .int i⟩
  | str z =>
    obtain ⟨t, e⟩ := He.str_ok X G c
    exact ⟨.str z, _, e, ⟨t, rfl⟩, fun _ _ => .str z⟩
  | tup ds =>
    simp only [gB, Bool.and_eq_true] at c
    obtain ⟨c1, c2, c4, c3⟩ := c
    refine ⟨.ref (He.ga K x), _, He.glo_ok X G c1, rfl, fun ω H => ?_⟩
    have hs := noDi_ok c4 (He.tupB_ok c2 fun _ => none) H
    refine .tup hs (by simp) fun i v d h1 h2 => ?_
    rw [List.getElem?_map, List.getElem?_map, h2] at h1
    have hf : D.flat d = true := List.all_eq_true.mp c3 d (List.mem_of_getElem? h2)
    simp only [Option.map_some, Option.some.injEq] at h1
    subst h1
    cases d with
    | non => exact .non
    | bl b => exact .bl b
    | int i => exact .int i
    | str x => exact .str x
    | _ => cases hf
  | _ => cases c
theorem vB_ok {u : Value} {d : D} (h : vB u d = true) : ∃ v, RelV v u ∧ ∀ (ω : Wd) (H : Hp), Rep K cl ω H v d := by
  cases u <;> cases d <;> first | cases h | skip
  · rename_i i t j
    have e : i = j := by simpa [vB] using h
    subst e
    exact ⟨.int i, ⟨t, rfl⟩, fun _ _ => .int i⟩
  · rename_i x t y
    have e : x = y := by simpa [vB] using h
    subst e
    exact ⟨.str x, ⟨t, rfl⟩, fun _ _ => .str x⟩
theorem entB_ok {z : Str} : ∀ {es : List DictEntry} {l : List (Str × D)}, entB es l = true → (match es.find? (·.key.isStr z) with
      | some e => some (some e.val)
      | none => if (es.any (·.refKey)) = true then none else some none) = some ((es.find? (·.key.isStr z)).map (·.val)) ∧ (match l.lookup z with
    | some d => ∃ u v, (es.find? (·.key.isStr z)).map (·.val) = some u ∧ RelV v u ∧ ∀ (ω : Wd) (H : Hp), Rep K cl ω H v d
    | none => (es.find? (·.key.isStr z)).map (·.val) = none)
  | [], [], _ => ⟨rfl, rfl⟩
  | [], _ :: _, h => by cases h
  | _ :: _, [], h => by cases h
  | e :: r, (k, d) :: l, h => by
    simp only [entB, Bool.and_eq_true] at h
    obtain ⟨h1, h2, h3⟩ := h
    obtain ⟨g1, g2⟩ := entB_ok (z := z) h3
    split at h1
    · rename_i x t q
      have ex := beq_iff_eq.mp h1
      subst ex
      have hk : e.key.isStr z = (z == x) := by
        rw [q]
        show (x == z) = (z == x)
        exact Bool.beq_comm
      rw [List.find?_cons, List.lookup_cons, hk]
      cases hz : z == x with
      | true =>
        obtain ⟨v, r1, r2⟩ := vB_ok (K := K) (cl := cl) h2
        exact ⟨rfl, e.val, v, rfl, r1, r2⟩
      | false =>
        refine ⟨?_, g2⟩
        have hr : e.refKey = false := by
          unfold DictEntry.refKey
          rw [q]
        dsimp only
        rw [List.any_cons, hr, Bool.false_or]
        exact g1
    · cases h1
theorem tblB_ok {a : Addr} {l : List (Str × D)} (h : tblB K a l = true) (z : Str) : ∃ r, PySem.W.nsIn K a z = some r ∧ (match l.lookup z with
    | some d => ∃ u v, r = some u ∧ RelV v u ∧ ∀ (ω : Wd) (H : Hp), Rep K cl ω H v d
    | none => r = none) := by
  unfold tblB at h
  unfold PySem.W.nsIn
  cases q : K.lookup a with
  | none => rw [q] at h; cases h
  | some o =>
    obtain ⟨oc, od, dt, osl⟩ := o
    rw [q] at h
    cases dt with
    | dict es n =>
      obtain ⟨g1, g2⟩ := entB_ok (K := K) (cl := cl) (z := z) h
      exact ⟨_, g1, g2⟩
    | _ => cases h
theorem kit_plain {t : Ty} (ht : ∀ c, t ≠ .cls c) (d : D) (no : notObj d = true) (ci : clsIn 0 d = true) : PySem.W.kitOne K (tyD cl d) (kitT cl t) = some (isTy t d) := by
  cases d with
  | obj _ => cases no
  | ins c l => simp [clsIn] at ci
  | _ => cases t <;> first | rfl | exact absurd rfl (ht _)
end
/-- what a law's proof gives -/
structure LawD where
  L : List (Nat × Fd)
  gls : List (Nat × Str × D)
  tbs : Tbs
  bls : List Str
  tys : List Ty
def LawD.T (l : LawD) : Tb := ⟨tabF l.L, l.gls, l.tbs, l.bls, [], l.tys⟩
def LawD.B (l : LawD) : Fns := ⟨fun i => match l.tbs.lookup i with | some (_, d) => d | none => [], 0, fun i => match l.gls.lookup i with | some (_, d) => d | none => .non, fun _ _ => M.no, fun _ _ _ => M.no, fun _ _ => M.no⟩
def LawD.fa (l : LawD) : List He.Fa := (l.L.map fun p => .glo p.2.x) ++ l.bls.map .free
def LawD.fn (l : LawD) : List He.DefD := l.L.map fun p => p.2.dd
def plainTys (l : List Ty) : Bool := l.all fun t => match t with | .cls _ => false | _ => true
/-- all that is checked of a law without a class -/
def LawD.ok (l : LawD) : Bool := fdsOk l.T l.L && (plainTys l.tys && ((l.gls.all fun p => dbgB p.2.1) && l.tbs.all fun p => dbgB p.2.1))
section
variable {P : Program} {w : World} {K : PySem.W.Frag} {mg : Str → Option Value} {h : Heap}
theorem lookup_mem {α : Type} : ∀ {l : List (Nat × α)} {i : Nat} {v : α}, l.lookup i = some v → (i, v) ∈ l
  | [], _, _, h => by cases h
  | (j, u) :: l, i, v, h => by
    rw [List.lookup_cons] at h
    cases e : i == j with
    | true =>
      rw [e] at h
      cases h
      rw [beq_iff_eq.mp e]
      simp
    | false =>
      rw [e] at h
      exact List.mem_cons_of_mem _ (lookup_mem h)
theorem law_to (l : LawD) (hok : l.ok = true) (X : K.In h) (G : h.Ns mainGlobals mg) (c : He.SaysD l.fa l.fn K) (cg : constB l.gls l.tbs K = true) (ct : (l.tbs.map fun p => He.dicW K (He.ga K p.2.1)) = l.tbs.map fun p => some (He.keysIn w.params (p.2.2.map (·.1)))) (base : Heap) :
    (∀ p ∈ l.L, ∃ a fd, FunD K p.2.x p.2.x p.2.params p.2.code p.2.scope [] [] a fd ∧ mg p.2.x = some (.ref a)) ∧ TO P w K mg base 0 { l.T with fns := [] } { l.B with fn := fun _ _ => M.no } (fun _ => 0) := by
  simp only [LawD.ok, Bool.and_eq_true, List.all_eq_true] at hok
  obtain ⟨h1, h2, h3, h3t⟩ := hok
  simp only [constB, Bool.and_eq_true] at cg
  obtain ⟨cg, cg2⟩ := cg
  refine ⟨fun p hp => ?_, ⟨(fun f x ar nw ps e => nomatch e), fun i x d e => ?_, fun i x l' e => ?_, fun x hx => ?_, (fun cc x e => nomatch e), fun t ht d no ci => ?_, fun cc z => absurd z (Nat.not_lt_zero _)⟩⟩
  · obtain ⟨i, hi⟩ := List.mem_iff_getElem?.mp hp
    obtain ⟨fd, F⟩ := c.def_ i (d := p.2.dd) (by unfold LawD.fn; rw [List.getElem?_map, hi]; rfl)
    have hf : (He.Fa.glo p.2.x).ok K = true := c.fact i (f := .glo p.2.x) (by
      unfold LawD.fa
      have hl : i < l.L.length := (List.getElem?_eq_some_iff.mp hi).1
      rw [List.getElem?_append_left (by simpa using hl), List.getElem?_map, hi]
      rfl)
    exact ⟨_, fd, F, He.glo_ok X G hf⟩
  · have hm := lookup_mem (show l.gls.lookup i = some (x, d) from e)
    obtain ⟨v, u, g1, g2, g3⟩ := gB_ok (cl := fun _ => 0) X G (List.all_eq_true.mp cg _ hm)
    have e2 : (l.B).gl i = d := by
      show (match l.gls.lookup i with | some (_, d) => d | none => .non) = d
      rw [show l.gls.lookup i = some (x, d) from e]
    refine ⟨v, u, g1, g2, fun ω H => ?_, dbg_of (h3 _ hm)⟩
    show Rep K (fun _ => 0) ω H v (l.B.gl i)
    rw [e2]
    exact g3 ω H
  · have hm := lookup_mem (show l.tbs.lookup i = some (x, l') from e)
    have hc := List.all_eq_true.mp cg2 _ hm
    simp only [Bool.and_eq_true] at hc
    obtain ⟨j, hj⟩ := List.mem_iff_getElem?.mp hm
    have hd : He.dicW K (He.ga K x) = some (He.keysIn w.params (l'.map (·.1))) := by
      have := congrArg (fun z => z[j]?) ct
      simp only [List.getElem?_map, hj, Option.map_some] at this
      exact Option.some.inj this
    have e2 : (l.B).tb i = l' := by
      show (match l.tbs.lookup i with | some (_, d) => d | none => []) = l'
      rw [show l.tbs.lookup i = some (x, l') from e]
    refine ⟨He.ga K x, He.glo_ok X G hc.1, dbg_of (h3t _ hm), He.dicW_ok hd, fun z => ?_⟩
    have := tblB_ok (cl := fun _ => 0) hc.2 z
    show ∃ r, _ ∧ (match ((l.B).tb i).lookup z with
      | some d => _
      | none => _)
    rw [e2]
    exact this
  · obtain ⟨i, hi⟩ := List.mem_iff_getElem?.mp (show x ∈ l.bls from hx)
    have hf : (He.Fa.free x).ok K = true := c.fact (l.L.length + i) (f := .free x) (by
      unfold LawD.fa
      rw [List.getElem?_append_right (by simp), List.length_map, Nat.add_sub_cancel_left, List.getElem?_map, hi]
      rfl)
    exact He.free_ok X G hf
  · refine kit_plain (fun cc e => ?_) d no ci
    have := List.all_eq_true.mp h2 t ht
    rw [e] at this
    cases this
theorem law_walk {l : PySem.W.OpenLaw} {n m : Nat} {q : Program} {loose : List Str} {XP : (Str → Option Value) → Heap → Prop} {d : DefRec} {ld : LawD} {n0 : Nat} {dl : Fd} {L' : List (Nat × Fd)} {sx : Str}
    (hn : l.most = some n) (hn2 : n ≤ sizeLine) (hdf : d.params.defaults = []) (hL : ld.L = (n0, dl) :: L') (hok : ld.ok = true) (hps : dl.ps = [sx]) (har : dl.ar = 1) (hnw : dl.nw = false) (hname : d.name = dl.x) (rM : Room ld.L.length callerA)
    (hlaw : ∀ ns : List Int, ns.length ≤ n → ∃ S, dl.run (phi ld.B L') [.frz (ns.map D.int)] [] = .ok (.bl true) S) :
    PySem.W.WalkO q loose XP (hookR m ld.fa ld.fn ld.gls ld.tbs).says l.row.toRowW d [] (fun f vs => PySem.call f vs) := by
  refine rf_walk (k := ld.L.length) (x := sx) hn hn2 hdf rM fun w mg fa h Y G hmg => ?_
  obtain ⟨K, KX, c, cg, ct⟩ := Y
  have hF := (law_to (P := l.prog) (w := w) ld hok KX G c cg ct h).1
  obtain ⟨a, fd, F, hm⟩ := hF (n0, dl) (by rw [hL]; simp)
  have ea : a = fa := by
    rw [hname, hm] at hmg
    cases hmg
    rfl
  subst ea
  have hok' := hok
  simp only [LawD.ok, Bool.and_eq_true] at hok'
  have hfd : fdOk { ld.T with fns := tabF L' } dl = true ∧ fdsOk ld.T L' = true := by
    have := hok'.1
    rw [hL] at this
    simpa only [fdsOk, Bool.and_eq_true] using this
  have hsimp : simpB dl.params dl.ps = true := by
    have := hfd.1
    simp only [fdOk, Bool.and_eq_true] at this
    exact this.1
  refine ⟨K, fd, fun _ => 0, dl.run (phi ld.B L'), KX, fun s u => ?_, hlaw, fun base _ _ => ?_⟩
  · have := FunD.bindsA (ps := dl.ps) F (fun kV doc pm an cdv ct us hl => bind_simple hsimp (by rw [hps]; simp) kV doc pm an cdv ct us hl) s [u] (by rw [hps]; rfl)
    rw [hps] at this
    exact this
  · have hB := (law_to (P := l.prog) (w := w) ld hok KX G c cg ct base).2
    have hT := fds_ok (L := L') hB hfd.2 fun p hp => hF p (by rw [hL]; exact List.mem_cons_of_mem _ hp)
    obtain ⟨g1, _⟩ := fd_ok hT F hfd.1
    rw [hnw, har, hps] at g1
    rw [hL]
    exact g1
end
end RF
end
section
set_option linter.all false
set_option autoImplicit false
/-! RfProg: the program's functions as terms (printed by gen.py). -/
namespace RF
open PySem (Str)
def fuel : Nat := 2 ^ 20000
/-- 0 -/
def p_is_between : List S := [(.iff (.or [(.not (.isi (.var 0) .int)), (.isi (.var 0) .bool)]) [(.ret (some (.cst (.bl false))))] []), (.ret (some (.and [(.or [(.cmp .isN (.var 1) (.cst .non)), (.cmp .ge (.var 0) (.var 1))]), (.or [(.cmp .isN (.var 2) (.cst .non)), (.cmp .le (.var 0) (.var 2))])])))]
def g_is_between (Φ : Fns) (ds : List D) : M D := runB (denSs Φ fuel p_is_between) 3 ds
/-- 2 -/
def p_common : List S := [(.asg (.nm 0) (.bi .abs [(.var 0)])), (.whl (.cmp .gt (.var 1) (.cst (.int 0))) [(.par [0, 1] [(.var 1), (.bin .mod (.bi .int [(.var 0)]) (.var 1))])]), (.ret (some (.var 0)))]
def g_common (Φ : Fns) (ds : List D) : M D := runB (denSs Φ fuel p_common) 2 ds
/-- 3 -/
def p_lowest : List S := [(.asg (.nm 2) (.call 2 [(.var 0), (.var 1)])), (.ret (some (.tup [(.bin .fdiv (.var 0) (.var 2)), (.bin .fdiv (.var 1) (.var 2))])))]
def g_lowest (Φ : Fns) (ds : List D) : M D := runB (denSs Φ fuel p_lowest) 3 ds
/-- 4 -/
def p_is_fraction : List S := [(.iff (.or [(.not (.isi (.var 0) .tuple)), (.cmp .ne (.bi .len [(.var 0)]) (.cst (.int 2)))]) [(.ret (some (.cst (.bl false))))] []), (.iff (.or [(.not (.call 0 [(.ix (.var 0) (.cst (.int 0))), (.cst .non), (.cst .non)])), (.not (.call 0 [(.ix (.var 0) (.cst (.int 1))), (.cst (.int 1)), (.cst .non)]))]) [(.ret (some (.cst (.bl false))))] []), (.ret (some (.cmp .eq (.call 2 [(.ix (.var 0) (.cst (.int 0))), (.ix (.var 0) (.cst (.int 1)))]) (.cst (.int 1)))))]
def g_is_fraction (Φ : Fns) (ds : List D) : M D := runB (denSs Φ fuel p_is_fraction) 1 ds
/-- 5 -/
def p_add : List S := [(.ret (some (.call 3 [(.bin .add (.bin .mul (.ix (.var 0) (.cst (.int 0))) (.ix (.var 1) (.cst (.int 1)))) (.bin .mul (.ix (.var 1) (.cst (.int 0))) (.ix (.var 0) (.cst (.int 1))))), (.bin .mul (.ix (.var 0) (.cst (.int 1))) (.ix (.var 1) (.cst (.int 1))))])))]
def g_add (Φ : Fns) (ds : List D) : M D := runB (denSs Φ fuel p_add) 2 ds
/-- 6 -/
def p_less : List S := [(.ret (some (.call 3 [(.bin .sub (.bin .mul (.ix (.var 0) (.cst (.int 0))) (.ix (.var 1) (.cst (.int 1)))) (.bin .mul (.ix (.var 1) (.cst (.int 0))) (.ix (.var 0) (.cst (.int 1))))), (.bin .mul (.ix (.var 0) (.cst (.int 1))) (.ix (.var 1) (.cst (.int 1))))])))]
def g_less (Φ : Fns) (ds : List D) : M D := runB (denSs Φ fuel p_less) 2 ds
/-- 7 -/
def p_times : List S := [(.ret (some (.call 3 [(.bin .mul (.ix (.var 0) (.cst (.int 0))) (.ix (.var 1) (.cst (.int 0)))), (.bin .mul (.ix (.var 0) (.cst (.int 1))) (.ix (.var 1) (.cst (.int 1))))])))]
def g_times (Φ : Fns) (ds : List D) : M D := runB (denSs Φ fuel p_times) 2 ds
/-- 8 -/
def p_over : List S := [(.ret (some (.call 3 [(.bin .mul (.ix (.var 0) (.cst (.int 0))) (.ix (.var 1) (.cst (.int 1)))), (.bin .mul (.ix (.var 0) (.cst (.int 1))) (.ix (.var 1) (.cst (.int 0))))])))]
def g_over (Φ : Fns) (ds : List D) : M D := runB (denSs Φ fuel p_over) 2 ds
/-- 9 -/
def p_is_below : List S := [(.ret (some (.cmp .lt (.bin .mul (.ix (.var 0) (.cst (.int 0))) (.ix (.var 1) (.cst (.int 1)))) (.bin .mul (.ix (.var 1) (.cst (.int 0))) (.ix (.var 0) (.cst (.int 1)))))))]
def g_is_below (Φ : Fns) (ds : List D) : M D := runB (denSs Φ fuel p_is_below) 2 ds
/-- 10 -/
def p_lesser : List S := [(.ret (some (.ite (.call 9 [(.var 1), (.var 0)]) (.var 1) (.var 0))))]
def g_lesser (Φ : Fns) (ds : List D) : M D := runB (denSs Φ fuel p_lesser) 2 ds
/-- 11 -/
def p_greater : List S := [(.ret (some (.ite (.call 9 [(.var 0), (.var 1)]) (.var 1) (.var 0))))]
def g_greater (Φ : Fns) (ds : List D) : M D := runB (denSs Φ fuel p_greater) 2 ds
/-- 12 -/
def p_half : List S := [(.ret (some (.call 3 [(.ix (.var 0) (.cst (.int 0))), (.bin .mul (.cst (.int 2)) (.ix (.var 0) (.cst (.int 1))))])))]
def g_half (Φ : Fns) (ds : List D) : M D := runB (denSs Φ fuel p_half) 1 ds
/-- 13 -/
def p_least : List S := [(.asg (.nm 1) (.ix (.var 0) (.cst (.int 0)))), (.forr (.nm 2) .seq [(.cut (.var 0) (some (.cst (.int 1))) none)] [(.asg (.nm 1) (.call 10 [(.var 1), (.var 2)]))]), (.ret (some (.var 1)))]
def g_least (Φ : Fns) (ds : List D) : M D := runB (denSs Φ fuel p_least) 3 ds
/-- 14 -/
def p_greatest : List S := [(.asg (.nm 1) (.ix (.var 0) (.cst (.int 0)))), (.forr (.nm 2) .seq [(.cut (.var 0) (some (.cst (.int 1))) none)] [(.asg (.nm 1) (.call 11 [(.var 1), (.var 2)]))]), (.ret (some (.var 1)))]
def g_greatest (Φ : Fns) (ds : List D) : M D := runB (denSs Φ fuel p_greatest) 3 ds
/-- 15 -/
def p_is_within : List S := [(.ret (some (.and [(.call 4 [(.var 0)]), (.not (.call 9 [(.var 0), (.var 1)])), (.not (.call 9 [(.var 2), (.var 0)]))])))]
def g_is_within (Φ : Fns) (ds : List D) : M D := runB (denSs Φ fuel p_is_within) 3 ds
/-- 16 -/
def p_is_share : List S := [(.ret (some (.call 15 [(.var 0), (.gl 0), (.gl 1)])))]
def g_is_share (Φ : Fns) (ds : List D) : M D := runB (denSs Φ fuel p_is_share) 1 ds
/-- 17 -/
def p_is_letter : List S := [(.ret (some (.and [(.isi (.var 0) .str), (.cmp .eq (.bi .len [(.var 0)]) (.cst (.int 1))), (.cmp .inn (.var 0) (.gl 7))])))]
def g_is_letter (Φ : Fns) (ds : List D) : M D := runB (denSs Φ fuel p_is_letter) 1 ds
/-- 18 -/
def p_is_part : List S := [(.ret (some (.and [(.call 16 [(.var 0)]), (.cmp .le (.ix (.var 0) (.cst (.int 1))) (.gl 4))])))]
def g_is_part (Φ : Fns) (ds : List D) : M D := runB (denSs Φ fuel p_is_part) 1 ds
/-- 19 -/
def p_is_ascending : List S := [(.ret (some (.bi .all [(.comp (.cmp .lt (.ix (.var 0) (.var 1)) (.ix (.var 0) (.bin .add (.var 1) (.cst (.int 1))))) (.nm 1) .range1 [(.bin .sub (.bi .len [(.var 0)]) (.cst (.int 1)))] [] [1])])))]
def g_is_ascending (Φ : Fns) (ds : List D) : M D := runB (denSs Φ fuel p_is_ascending) 2 ds
/-- 20 -/
def p_are_arrows : List S := [(.iff (.or [(.not (.isi (.var 0) .tuple)), (.cmp .eq (.bi .len [(.var 0)]) (.cst (.int 0))), (.not (.bi .all [(.comp (.call 17 [(.var 1)]) (.nm 1) .seq [(.var 0)] [] [1])]))]) [(.ret (some (.cst (.bl false))))] []), (.ret (some (.call 19 [(.var 0)])))]
def g_are_arrows (Φ : Fns) (ds : List D) : M D := runB (denSs Φ fuel p_are_arrows) 2 ds
/-- 21 -/
def p_is_end : List S := [(.ret (some (.isi (.ix (.var 0) (.cst (.int 0))) .int)))]
def g_is_end (Φ : Fns) (ds : List D) : M D := runB (denSs Φ fuel p_is_end) 1 ds
/-- 22 -/
def p_is_pair : List S := [(.iff (.or [(.not (.isi (.var 0) .tuple)), (.cmp .ne (.bi .len [(.var 0)]) (.cst (.int 2))), (.not (.call 17 [(.ix (.var 0) (.cst (.int 0)))]))]) [(.ret (some (.cst (.bl false))))] []), (.ret (some (.or [(.call 18 [(.ix (.var 0) (.cst (.int 1)))]), (.call 20 [(.ix (.var 0) (.cst (.int 1)))])])))]
def g_is_pair (Φ : Fns) (ds : List D) : M D := runB (denSs Φ fuel p_is_pair) 1 ds
/-- 23 -/
def p_lost_places : List S := [(.asg (.nm 1) (.comp (.var 3) (.tup [(.nm 3), (.nm 4)]) .seq [(.var 0)] [(.call 21 [(.var 4)])] [3, 4])), (.forr (.nm 2) .range1 [(.bi .len [(.var 0)])] [(.forr (.tup [(.nm 3), (.nm 4)]) .seq [(.var 0)] [(.iff (.and [(.cmp .nin (.var 3) (.var 1)), (.bi .any [(.comp (.cmp .inn (.var 5) (.var 1)) (.nm 5) .seq [(.var 4)] [] [5])])]) [(.app 1 (.var 3))] [])])]), (.ret (some (.comp (.var 3) (.tup [(.nm 3), (.nm 4)]) .seq [(.var 0)] [(.cmp .nin (.var 3) (.var 1))] [3, 4])))]
def g_lost_places (Φ : Fns) (ds : List D) : M D := runB (denSs Φ fuel p_lost_places) 6 ds
/-- 24 -/
def p_are_rows : List S := [(.iff (.or [(.not (.isi (.var 0) .tuple)), (.not (.chain .le .le (.cst (.int 1)) (.bi .len [(.var 0)]) (.gl 2))), (.not (.bi .all [(.comp (.call 22 [(.var 4)]) (.nm 4) .seq [(.var 0)] [] [4])]))]) [(.ret (some (.cst (.bl false))))] []), (.asg (.nm 1) (.comp (.var 2) (.tup [(.nm 2), (.nm 3)]) .seq [(.var 0)] [] [2, 3])), (.iff (.not (.call 19 [(.var 1)])) [(.ret (some (.cst (.bl false))))] []), (.forr (.tup [(.nm 2), (.nm 3)]) .seq [(.var 0)] [(.iff (.and [(.not (.call 21 [(.var 3)])), (.bi .any [(.comp (.cmp .nin (.var 5) (.var 1)) (.nm 5) .seq [(.var 3)] [] [5])])]) [(.ret (some (.cst (.bl false))))] [])]), (.ret (some (.cmp .eq (.bi .len [(.call 23 [(.var 0)])]) (.cst (.int 0)))))]
def g_are_rows (Φ : Fns) (ds : List D) : M D := runB (denSs Φ fuel p_are_rows) 6 ds
/-- 31 -/
def p_reduced : List S := [(.asg (.nm 3) (.ix (.var 0) (.var 2))), (.ret (some (.comp (.call 6 [(.var 5), (.call 7 [(.var 3), (.ix (.var 1) (.var 4))])]) (.tup [(.nm 4), (.nm 5)]) .enum [(.var 0)] [] [4, 5])))]
def g_reduced (Φ : Fns) (ds : List D) : M D := runB (denSs Φ fuel p_reduced) 6 ds
/-- 32 -/
def p_pivot_at : List S := [(.forr (.nm 2) .range2 [(.var 1), (.bi .len [(.var 0)])] [(.iff (.cmp .ne (.ix (.ix (.var 0) (.var 2)) (.var 1)) (.gl 0)) [(.ret (some (.var 2)))] [])]), (.ret (some (.var 1)))]
def g_pivot_at (Φ : Fns) (ds : List D) : M D := runB (denSs Φ fuel p_pivot_at) 3 ds
/-- 33 -/
def p_solved : List S := [(.asg (.nm 0) (.bi .list [(.var 0)])), (.forr (.nm 1) .range1 [(.bi .len [(.var 0)])] [(.asg (.nm 2) (.call 32 [(.var 0), (.var 1)])), (.asg (.nm 3) (.ix (.var 0) (.var 2))), (.asg (.nm 4) (.bin .add (.cut (.var 0) none (some (.var 2))) (.cut (.var 0) (some (.bin .add (.var 2) (.cst (.int 1)))) none))), (.asg (.nm 5) (.call 34 [(.var 3), (.ix (.var 3) (.var 1))])), (.asg (.nm 0) (.bin .add (.bin .add (.cut (.var 4) none (some (.var 1))) (.lst [(.var 5)])) (.cut (.var 4) (some (.var 1)) none))), (.asg (.nm 0) (.comp (.ite (.cmp .ne (.var 6) (.var 1)) (.call 31 [(.var 7), (.var 5), (.var 1)]) (.var 5)) (.tup [(.nm 6), (.nm 7)]) .enum [(.var 0)] [] [6, 7]))]), (.ret (some (.comp (.ix (.var 3) (.neg (.cst (.int 1)))) (.nm 3) .seq [(.var 0)] [] [3])))]
def g_solved (Φ : Fns) (ds : List D) : M D := runB (denSs Φ fuel p_solved) 8 ds
/-- 34 -/
def p_over_row : List S := [(.iff (.cmp .gt (.ix (.var 1) (.cst (.int 0))) (.cst (.int 0))) [(.ret (some (.comp (.call 8 [(.var 3), (.var 1)]) (.nm 3) .seq [(.var 0)] [] [3])))] []), (.asg (.nm 2) (.tup [(.neg (.ix (.var 1) (.cst (.int 0)))), (.ix (.var 1) (.cst (.int 1)))])), (.ret (some (.comp (.call 6 [(.gl 0), (.call 8 [(.var 3), (.var 2)])]) (.nm 3) .seq [(.var 0)] [] [3])))]
def g_over_row (Φ : Fns) (ds : List D) : M D := runB (denSs Φ fuel p_over_row) 4 ds
/-- 36 -/
def p_check_side : List S := [(.iff (.or [(.not (.isi (.var 0) .str)), (.cmp .nin (.var 0) (.gl 6))]) [.never] [])]
def g_check_side (Φ : Fns) (ds : List D) : M D := runB (denSs Φ fuel p_check_side) 1 ds
/-- 37 -/
def p_check_share : List S := [(.iff (.not (.call 16 [(.var 0)])) [.never] [])]
def g_check_share (Φ : Fns) (ds : List D) : M D := runB (denSs Φ fuel p_check_share) 1 ds
/-- 38 -/
def p_ends_in : List S := [(.ret (some (.bi .dict [(.comp (.tup [(.var 1), (.var 2)]) (.tup [(.nm 1), (.nm 2)]) .seq [(.var 0)] [(.call 21 [(.var 2)])] [1, 2])])))]
def g_ends_in (Φ : Fns) (ds : List D) : M D := runN (denSs Φ fuel p_ends_in) 3 ds
/-- 39 -/
def p_ways_home : List S := [(.asg (.nm 1) (.comp (.var 5) (.tup [(.nm 5), (.nm 6)]) .seq [(.var 0)] [(.call 21 [(.var 6)])] [5, 6])), (.asg (.nm 2) .dnew), (.forr (.nm 3) .range1 [(.bi .len [(.var 0)])] [(.asg (.nm 4) (.lst [])), (.forr (.tup [(.nm 5), (.nm 6)]) .seq [(.var 0)] [(.asg (.nm 7) (.ite (.or [(.call 21 [(.var 6)]), (.cmp .inn (.var 5) (.var 2))]) (.lst []) (.comp (.var 8) (.nm 8) .seq [(.var 6)] [(.cmp .inn (.var 8) (.var 1))] [8]))), (.iff (.cmp .gt (.bi .len [(.var 7)]) (.cst (.int 0))) [(.setIx 2 (.var 5) (.ix (.var 7) (.cst (.int 0)))), (.app 4 (.var 5))] [])]), (.asg (.nm 1) (.bin .add (.var 1) (.var 4)))]), (.ret (some (.var 2)))]
def g_ways_home (Φ : Fns) (ds : List D) : M D := runB (denSs Φ fuel p_ways_home) 9 ds
/-- 40 -/
def p_numbers_for : List S := [(.asg (.nm 3) (.comp (.var 5) (.tup [(.nm 5), (.nm 6)]) .seq [(.var 0)] [] [5, 6])), (.asg (.nm 4) (.call 33 [(.call 35 [(.var 3), (.var 1), (.var 2), (.call 38 [(.var 0)])])])), (.ret (some (.bi .dict [(.comp (.tup [(.var 5), (.ix (.var 4) (.var 7))]) (.tup [(.nm 7), (.nm 5)]) .enum [(.var 3)] [] [7, 5])])))]
def g_numbers_for (Φ : Fns) (ds : List D) : M D := runB (denSs Φ fuel p_numbers_for) 8 ds
/-- 41 -/
def p_raised : List S := [(.asg (.nm 3) .dnew), (.forr (.tup [(.nm 4), (.nm 5)]) .seq [(.var 0)] [(.iff (.not (.call 21 [(.var 5)])) [(.asg (.nm 6) (.call 14 [(.comp (.ix (.var 2) (.var 7)) (.nm 7) .seq [(.var 5)] [] [7])])), (.setIx 3 (.var 4) (.ite (.cmp .eq (.ix (.var 2) (.ix (.var 1) (.var 4))) (.var 6)) (.ix (.var 1) (.var 4)) (.call 43 [(.var 5), (.var 2), (.var 6)])))] [])]), (.ret (some (.var 3)))]
def g_raised (Φ : Fns) (ds : List D) : M D := runB (denSs Φ fuel p_raised) 8 ds
/-- 42 -/
def p_lowered : List S := [(.asg (.nm 3) .dnew), (.forr (.tup [(.nm 4), (.nm 5)]) .seq [(.var 0)] [(.iff (.not (.call 21 [(.var 5)])) [(.asg (.nm 6) (.call 13 [(.comp (.ix (.var 2) (.var 7)) (.nm 7) .seq [(.var 5)] [] [7])])), (.setIx 3 (.var 4) (.ite (.cmp .eq (.ix (.var 2) (.ix (.var 1) (.var 4))) (.var 6)) (.ix (.var 1) (.var 4)) (.call 43 [(.var 5), (.var 2), (.var 6)])))] [])]), (.ret (some (.var 3)))]
def g_lowered (Φ : Fns) (ds : List D) : M D := runB (denSs Φ fuel p_lowered) 8 ds
/-- 43 -/
def p_at_number : List S := [(.ret (some (.ix (.comp (.var 3) (.nm 3) .seq [(.var 0)] [(.cmp .eq (.ix (.var 1) (.var 3)) (.var 2))] [3]) (.cst (.int 0)))))]
def g_at_number (Φ : Fns) (ds : List D) : M D := runB (denSs Φ fuel p_at_number) 4 ds
/-- 44 -/
def p_answered : List S := [(.asg (.nm 2) (.bi .dict [(.var 1)])), (.asg (.nm 3) (.call 40 [(.var 0), (.var 1), (.var 2)])), (.asg (.nm 4) (.call 41 [(.var 0), (.var 2), (.var 3)])), (.whl (.cmp .ne (.var 4) (.var 2)) [(.asg (.nm 2) (.var 4)), (.asg (.nm 3) (.call 40 [(.var 0), (.var 1), (.var 2)])), (.asg (.nm 4) (.call 41 [(.var 0), (.var 2), (.var 3)]))]), (.ret (some (.var 3)))]
def g_answered (Φ : Fns) (ds : List D) : M D := runB (denSs Φ fuel p_answered) 5 ds
/-- 45 -/
def p_needs_of : List S := [(.asg (.nm 1) (.call 39 [(.var 0)])), (.asg (.nm 2) (.call 44 [(.var 0), (.var 1)])), (.asg (.nm 3) (.call 42 [(.var 0), (.var 1), (.var 2)])), (.whl (.cmp .ne (.var 3) (.var 1)) [(.asg (.nm 1) (.var 3)), (.asg (.nm 2) (.call 44 [(.var 0), (.var 1)])), (.asg (.nm 3) (.call 42 [(.var 0), (.var 1), (.var 2)]))]), (.ret (some (.var 2)))]
def g_needs_of (Φ : Fns) (ds : List D) : M D := runB (denSs Φ fuel p_needs_of) 4 ds
/-- 48 -/
def p_ends_of : List S := [(.asg (.nm 2) (.comp (.ix (.var 1) (.var 3)) (.nm 3) .seq [(.var 0)] [] [3])), (.ret (some (.tup [(.call 13 [(.var 2)]), (.call 14 [(.var 2)])])))]
def g_ends_of (Φ : Fns) (ds : List D) : M D := runB (denSs Φ fuel p_ends_of) 4 ds
/-- 49 -/
def p_step_of : List S := [(.asg (.tup [(.nm 2), (.nm 3)]) (.call 48 [(.var 0), (.var 1)])), (.ret (some (.call 12 [(.call 6 [(.var 3), (.var 2)])])))]
def g_step_of (Φ : Fns) (ds : List D) : M D := runB (denSs Φ fuel p_step_of) 4 ds
/-- 52 -/
def p_leader_at : List S := [(.iff (.call 9 [(.var 0), (.var 1)]) [(.ret (some (.cst (.str "first"))))] []), (.ret (some (.ite (.call 9 [(.var 1), (.var 0)]) (.cst (.str "second")) (.cst (.str "open")))))]
def g_leader_at (Φ : Fns) (ds : List D) : M D := runB (denSs Φ fuel p_leader_at) 2 ds
/-- 55 -/
def p_halved : List S := [(.asg (.tup [(.nm 2), (.nm 3)]) (.call 48 [(.var 0), (.var 1)])), (.ret (some (.call 12 [(.call 5 [(.var 2), (.var 3)])])))]
def g_halved (Φ : Fns) (ds : List D) : M D := runB (denSs Φ fuel p_halved) 4 ds
/-- 56 -/
def p_check_moves : List S := [(.iff (.not (.call 0 [(.var 0), (.cst (.int 0)), (.gl 3)])) [.never] [])]
def g_check_moves (Φ : Fns) (ds : List D) : M D := runB (denSs Φ fuel p_check_moves) 1 ds
/-- 57 -/
def p_begun : List S := [(.asg (.nm 2) (.call 38 [(.var 0)])), (.forr (.tup [(.nm 3), (.nm 4)]) .seq [(.var 0)] [(.iff (.not (.call 21 [(.var 4)])) [(.setIx 2 (.var 3) (.var 1))] [])]), (.ret (some (.var 2)))]
def g_begun (Φ : Fns) (ds : List D) : M D := runB (denSs Φ fuel p_begun) 5 ds
/-- 58 -/
def p_moved : List S := [(.ret (some (.bi .dict [(.comp (.tup [(.var 2), (.ite (.call 21 [(.var 3)]) (.var 3) (.call 55 [(.var 3), (.var 1)]))]) (.tup [(.nm 2), (.nm 3)]) .seq [(.var 0)] [] [2, 3])])))]
def g_moved (Φ : Fns) (ds : List D) : M D := runB (denSs Φ fuel p_moved) 4 ds
/-- 59 -/
def p_numbers_within : List S := [(.asg (.nm 3) (.call 57 [(.var 0), (.var 2)])), (.forr (.nm 4) .range1 [(.var 1)] [(.asg (.nm 3) (.call 58 [(.var 0), (.var 3)]))]), (.ret (some (.var 3)))]
def g_numbers_within (Φ : Fns) (ds : List D) : M D := runB (denSs Φ fuel p_numbers_within) 5 ds
/-- 63 -/
def p_first_moves : List S := [(.asg (.nm 4) (.call 57 [(.var 0), (.var 3)])), (.forr (.nm 5) .range1 [(.bin .add (.gl 3) (.cst (.int 1)))] [(.iff (.ite (.cmp .eq (.var 3) (.gl 1)) (.call 9 [(.ix (.var 4) (.var 1)), (.var 2)]) (.call 9 [(.var 2), (.ix (.var 4) (.var 1))])) [(.ret (some (.var 5)))] []), (.asg (.nm 4) (.call 58 [(.var 0), (.var 4)]))]), (.ret (some (.cst .non)))]
def g_first_moves (Φ : Fns) (ds : List D) : M D := runB (denSs Φ fuel p_first_moves) 6 ds
/-- 66 -/
def p_purse : List S := [(.ret (some (.ite (.cmp .eq (.var 1) (.cst (.str "first"))) (.var 0) (.call 6 [(.gl 1), (.var 0)]))))]
def g_purse (Φ : Fns) (ds : List D) : M D := runB (denSs Φ fuel p_purse) 2 ds
/-- 67 -/
def p_is_winning : List S := [(.ret (some (.ite (.cmp .eq (.var 2) (.cst (.str "first"))) (.call 9 [(.var 0), (.var 1)]) (.call 9 [(.var 1), (.var 0)]))))]
def g_is_winning (Φ : Fns) (ds : List D) : M D := runB (denSs Φ fuel p_is_winning) 3 ds
/-- 68 -/
def p_stretch : List S := [(.asg (.tup [(.nm 5), (.nm 6)]) (.call 48 [(.var 0), (.var 1)])), (.iff (.cmp .eq (.var 3) (.cst (.str "first"))) [(.ret (some (.tup [(.call 6 [(.var 6), (.var 2)]), (.call 6 [(.var 2), (.ix (.var 1) (.var 4))])])))] []), (.ret (some (.tup [(.call 6 [(.var 2), (.var 5)]), (.call 6 [(.ix (.var 1) (.var 4)), (.var 2)])])))]
def g_stretch (Φ : Fns) (ds : List D) : M D := runB (denSs Φ fuel p_stretch) 7 ds
/-- 69 -/
def p_holds_bids : List S := [(.asg (.tup [(.nm 2), (.nm 3)]) (.var 0)), (.ret (some (.and [(.call 9 [(.var 2), (.var 3)]), (.call 9 [(.gl 0), (.var 3)]), (.call 9 [(.var 2), (.var 1)])])))]
def g_holds_bids (Φ : Fns) (ds : List D) : M D := runB (denSs Φ fuel p_holds_bids) 4 ds
/-- 76 -/
def p_is_plan : List S := [(.asg (.nm 2) (.comp (.tup [(.var 5), (.var 6)]) (.tup [(.nm 5), (.nm 6)]) .seq [(.var 1)] [(.not (.call 21 [(.var 6)]))] [5, 6])), (.iff (.or [(.not (.isi (.var 0) .tuple)), (.cmp .ne (.bi .len [(.var 0)]) (.bi .len [(.var 2)]))]) [(.ret (some (.cst (.bl false))))] []), (.forr (.tup [(.nm 3), (.nm 4)]) .enum [(.var 0)] [(.iff (.or [(.not (.isi (.var 4) .tuple)), (.cmp .ne (.bi .len [(.var 4)]) (.cst (.int 3))), (.not (.call 16 [(.ix (.var 4) (.cst (.int 1)))]))]) [(.ret (some (.cst (.bl false))))] []), (.iff (.or [(.not (.isi (.ix (.var 4) (.cst (.int 0))) .str)), (.cmp .ne (.ix (.var 4) (.cst (.int 0))) (.ix (.ix (.var 2) (.var 3)) (.cst (.int 0))))]) [(.ret (some (.cst (.bl false))))] []), (.iff (.or [(.not (.isi (.ix (.var 4) (.cst (.int 2))) .str)), (.cmp .nin (.ix (.var 4) (.cst (.int 2))) (.ix (.ix (.var 2) (.var 3)) (.cst (.int 1))))]) [(.ret (some (.cst (.bl false))))] [])]), (.ret (some (.cst (.bl true))))]
def g_is_plan (Φ : Fns) (ds : List D) : M D := runB (denSs Φ fuel p_is_plan) 7 ds
/-- 78 -/
def p_planned : List S := [(.asg (.nm 3) (.bi .dict [(.comp (.tup [(.var 5), (.var 9)]) (.tup [(.nm 5), (.nm 9)]) .seq [(.var 0)] [(.call 21 [(.var 9)])] [5, 9])])), (.asg (.nm 4) (.bi .dict [(.var 0)])), (.forr (.tup [(.nm 5), (.nm 6), (.nm 7)]) .seq [(.var 1)] [(.asg (.nm 8) (.call 14 [(.comp (.ix (.var 2) (.var 10)) (.nm 10) .seq [(.ix (.var 4) (.var 5))] [] [10])])), (.setIx 3 (.var 5) (.call 10 [(.gl 1), (.call 11 [(.call 5 [(.var 6), (.ix (.var 2) (.var 7))]), (.call 6 [(.var 8), (.var 6)])])]))]), (.ret (some (.var 3)))]
def g_planned (Φ : Fns) (ds : List D) : M D := runB (denSs Φ fuel p_planned) 11 ds
/-- 79 -/
def p_plan_numbers : List S := [(.asg (.nm 3) (.lst [(.call 57 [(.var 0), (.gl 1)])])), (.forr (.nm 4) .range1 [(.var 2)] [(.app 3 (.call 78 [(.var 0), (.var 1), (.ix (.var 3) (.neg (.cst (.int 1))))]))]), (.ret (some (.var 3)))]
def g_plan_numbers (Φ : Fns) (ds : List D) : M D := runB (denSs Φ fuel p_plan_numbers) 5 ds
/-- 91 -/
def p_doubled : List S := [(.asg (.nm 1) (.cst (.int 1))), (.forr (.nm 2) .range1 [(.var 0)] [(.asg (.nm 1) (.bin .mul (.cst (.int 2)) (.var 1)))]), (.ret (some (.var 1)))]
def g_doubled (Φ : Fns) (ds : List D) : M D := runB (denSs Φ fuel p_doubled) 3 ds
/-- 98 -/
def p_is_about : List S := [(.iff (.cmp .eq (.ix (.var 0) (.cst (.int 0))) (.cst (.str "within"))) [(.ret (some (.and [(.call 0 [(.ix (.var 0) (.cst (.int 3))), (.cst (.int 0)), (.gl 3)]), (.call 4 [(.ix (.var 0) (.cst (.int 4)))])])))] []), (.iff (.cmp .eq (.ix (.var 0) (.cst (.int 0))) (.cst (.str "safe"))) [(.asg (.nm 1) (.comp (.var 2) (.tup [(.nm 2), (.nm 3)]) .seq [(.ix (.var 0) (.cst (.int 1)))] [] [2, 3])), (.ret (some (.and [(.call 16 [(.ix (.var 0) (.cst (.int 3)))]), (.call 16 [(.ix (.var 0) (.cst (.int 4)))]), (.isi (.ix (.var 0) (.cst (.int 5))) .str), (.cmp .inn (.ix (.var 0) (.cst (.int 5))) (.var 1))])))] []), (.ret (some (.call 4 [(.ix (.var 0) (.cst (.int 3)))])))]
def g_is_about (Φ : Fns) (ds : List D) : M D := runB (denSs Φ fuel p_is_about) 4 ds
/-- 99 -/
def p_is_claim : List S := [(.iff (.or [(.not (.isi (.var 0) .tuple)), (.cmp .eq (.bi .len [(.var 0)]) (.cst (.int 0))), (.not (.isi (.ix (.var 0) (.cst (.int 0))) .str)), (.inG 2 true (.ix (.var 0) (.cst (.int 0))))]) [(.ret (some (.cst (.bl false))))] []), (.iff (.or [(.cmp .ne (.bi .len [(.var 0)]) (.ixG 2 (.ix (.var 0) (.cst (.int 0))))), (.not (.call 24 [(.ix (.var 0) (.cst (.int 1)))])), (.not (.isi (.ix (.var 0) (.cst (.int 2))) .str))]) [(.ret (some (.cst (.bl false))))] []), (.ret (some (.and [(.cmp .inn (.ix (.var 0) (.cst (.int 2))) (.comp (.var 1) (.tup [(.nm 1), (.nm 2)]) .seq [(.ix (.var 0) (.cst (.int 1)))] [] [1, 2])), (.call 98 [(.var 0)])])))]
def g_is_claim (Φ : Fns) (ds : List D) : M D := runB (denSs Φ fuel p_is_claim) 3 ds
/-- 100 -/
def p_table_in : List S := [(.iff (.or [(.not (.isi (.var 1) .tuple)), (.cmp .ne (.bi .len [(.var 1)]) (.bi .len [(.var 0)])), (.not (.bi .all [(.comp (.call 4 [(.var 5)]) (.nm 5) .seq [(.var 1)] [] [5])]))]) [(.ret (some (.cst .non)))] []), (.ret (some (.bi .dict [(.comp (.tup [(.var 3), (.ix (.var 1) (.var 2))]) (.tup [(.nm 2), (.tup [(.nm 3), (.nm 4)])]) .enum [(.var 0)] [] [2, 3, 4])])))]
def g_table_in (Φ : Fns) (ds : List D) : M D := runB (denSs Φ fuel p_table_in) 6 ds
/-- 101 -/
def p_is_table : List S := [(.forr (.tup [(.nm 2), (.nm 3)]) .seq [(.var 0)] [(.iff (.cmp .ne (.ix (.var 1) (.var 2)) (.ite (.call 21 [(.var 3)]) (.var 3) (.call 55 [(.var 3), (.var 1)]))) [(.ret (some (.cst (.bl false))))] [])]), (.ret (some (.cst (.bl true))))]
def g_is_table (Φ : Fns) (ds : List D) : M D := runB (denSs Φ fuel p_is_table) 4 ds
/-- 102 -/
def p_shows_within : List S := [(.asg (.nm 2) (.ix (.var 0) (.cst (.int 1)))), (.iff (.or [(.not (.isi (.var 1) .tuple)), (.cmp .ne (.bi .len [(.var 1)]) (.bin .add (.ix (.var 0) (.cst (.int 3))) (.cst (.int 1))))]) [(.ret (some (.cst (.bl false))))] []), (.asg (.nm 3) (.call 57 [(.var 2), (.gl 1)])), (.forr (.nm 4) .seq [(.var 1)] [(.iff (.cmp .ne (.call 100 [(.var 2), (.var 4)]) (.var 3)) [(.ret (some (.cst (.bl false))))] []), (.asg (.nm 5) (.var 3)), (.asg (.nm 3) (.call 58 [(.var 2), (.var 3)]))]), (.ret (some (.cmp .eq (.ix (.var 5) (.ix (.var 0) (.cst (.int 2)))) (.ix (.var 0) (.cst (.int 4))))))]
def g_shows_within (Φ : Fns) (ds : List D) : M D := runB (denSs Φ fuel p_shows_within) 6 ds
/-- 103 -/
def p_shows_safe : List S := [(.asg (.nm 2) (.ix (.bi .dict [(.ix (.var 0) (.cst (.int 1)))]) (.ix (.var 0) (.cst (.int 2))))), (.iff (.or [(.call 21 [(.var 2)]), (.cmp .nin (.ix (.var 0) (.cst (.int 5))) (.var 2))]) [(.ret (some (.cst (.bl false))))] []), (.iff (.or [(.call 9 [(.ix (.var 0) (.cst (.int 3))), (.ix (.var 0) (.cst (.int 4)))]), (.not (.call 9 [(.ix (.var 1) (.ix (.var 0) (.cst (.int 2)))), (.ix (.var 0) (.cst (.int 3)))]))]) [(.ret (some (.cst (.bl false))))] []), (.asg (.tup [(.nm 3), (.nm 4)]) (.call 68 [(.var 2), (.var 1), (.ix (.var 0) (.cst (.int 3))), (.cst (.str "first")), (.ix (.var 0) (.cst (.int 5)))])), (.ret (some (.and [(.call 9 [(.var 3), (.ix (.var 0) (.cst (.int 4)))]), (.call 9 [(.ix (.var 0) (.cst (.int 4))), (.var 4)])])))]
def g_shows_safe (Φ : Fns) (ds : List D) : M D := runB (denSs Φ fuel p_shows_safe) 5 ds
/-- 104 -/
def p_accepts : List S := [(.iff (.not (.call 99 [(.var 0)])) [(.ret (some (.cst (.bl false))))] []), (.iff (.cmp .eq (.ix (.var 0) (.cst (.int 0))) (.cst (.str "within"))) [(.ret (some (.call 102 [(.var 0), (.var 1)])))] []), (.asg (.nm 2) (.call 100 [(.ix (.var 0) (.cst (.int 1))), (.var 1)])), (.iff (.or [(.cmp .isN (.var 2) (.cst .non)), (.not (.call 101 [(.ix (.var 0) (.cst (.int 1))), (.var 2)]))]) [(.ret (some (.cst (.bl false))))] []), (.iff (.cmp .eq (.ix (.var 0) (.cst (.int 0))) (.cst (.str "safe"))) [(.ret (some (.call 103 [(.var 0), (.var 2)])))] []), (.asg (.nm 3) (.ix (.var 2) (.ix (.var 0) (.cst (.int 2))))), (.iff (.cmp .eq (.ix (.var 0) (.cst (.int 0))) (.cst (.str "needs"))) [(.ret (some (.cmp .eq (.var 3) (.ix (.var 0) (.cst (.int 3))))))] []), (.ret (some (.ite (.cmp .eq (.ix (.var 0) (.cst (.int 0))) (.cst (.str "above"))) (.call 9 [(.ix (.var 0) (.cst (.int 3))), (.var 3)]) (.call 9 [(.var 3), (.ix (.var 0) (.cst (.int 3)))]))))]
def g_accepts (Φ : Fns) (ds : List D) : M D := runB (denSs Φ fuel p_accepts) 4 ds
end RF
end
section
set_option linter.all false
set_option autoImplicit false
/-! RfLib: the laws' own functions as terms (printed by gen.py). -/
namespace RF
open PySem (Str)
/-- 2085 -/
def q_law_dip : List S := [(.iff (.cmp .gt (.ix (.var 0) (.cst (.int 0))) (.cst (.int 0))) [(.obT 0 (.cst (.int 0)) 2 (.bi .divmod [(.ix (.var 0) (.cst (.int 0))), (.var 1)])), (.ret (some (.var 2)))] []), (.setOb 0 (.cst (.int 1)) (.bin .mod (.bi .int [(.bin .add (.bin .mul (.ix (.var 0) (.cst (.int 1))) (.cst (.int 64033))) (.cst (.int 15013)))]) (.cst (.int 2147482873)))), (.ret (some (.bin .mod (.bi .int [(.bin .fdiv (.ix (.var 0) (.cst (.int 1))) (.cst (.int 907)))]) (.var 1))))]
def h_law_dip (Φ : Fns) (ds : List D) : M D := runB (denSs Φ fuel q_law_dip) 3 ds
/-- 2086 -/
def q_law_letters : List S := [(.par [2, 3] [(.cst (.str "")), (.call 2085 [(.var 0), (.cst (.int 3))])]), (.forr (.nm 4) .range1 [(.var 1)] [(.asg (.nm 2) (.bin .add (.var 2) (.ix (.cst (.str "abcdefghijklmnopqrstuvwxyz")) (.var 3)))), (.asg (.nm 3) (.bin .add (.bin .add (.var 3) (.cst (.int 1))) (.call 2085 [(.var 0), (.cst (.int 3))])))]), (.ret (some (.var 2)))]
def h_law_letters (Φ : Fns) (ds : List D) : M D := runB (denSs Φ fuel q_law_letters) 5 ds
/-- 2087 -/
def q_law_is_tip : List S := [(.ret (some (.isi (.ix (.var 0) (.cst (.int 0))) .int)))]
def h_law_is_tip (Φ : Fns) (ds : List D) : M D := runB (denSs Φ fuel q_law_is_tip) 1 ds
/-- 2088 -/
def q_law_lost2 : List S := [(.asg (.nm 1) (.comp (.var 3) (.tup [(.nm 3), (.nm 4)]) .seq [(.var 0)] [(.call 2087 [(.var 4)])] [3, 4])), (.forr (.nm 2) .seq [(.var 0)] [(.forr (.tup [(.nm 3), (.nm 4)]) .seq [(.var 0)] [(.iff (.and [(.cmp .nin (.var 3) (.var 1)), (.cmp .ne (.comp (.var 5) (.nm 5) .seq [(.var 4)] [(.cmp .inn (.var 5) (.var 1))] [5]) (.lst []))]) [(.app 1 (.var 3))] [])])]), (.ret (some (.comp (.var 3) (.tup [(.nm 3), (.nm 4)]) .seq [(.var 0)] [(.cmp .nin (.var 3) (.var 1))] [3, 4])))]
def h_law_lost2 (Φ : Fns) (ds : List D) : M D := runB (denSs Φ fuel q_law_lost2) 6 ds
/-- 2089 -/
def q_law_mixed : List S := [(.par [2, 3] [(.lst []), (.bi .list [(.var 1)])]), (.forr (.nm 4) .range1 [(.bi .len [(.var 1)])] [(.asg (.nm 5) (.call 2085 [(.var 0), (.bi .len [(.var 3)])])), (.par [2, 3] [(.bin .add (.var 2) (.lst [(.ix (.var 3) (.var 5))])), (.bin .add (.cut (.var 3) none (some (.var 5))) (.cut (.var 3) (some (.bin .add (.var 5) (.cst (.int 1)))) none))])]), (.ret (some (.var 2)))]
def h_law_mixed (Φ : Fns) (ds : List D) : M D := runB (denSs Φ fuel q_law_mixed) 6 ds
/-- 2090 -/
def q_law_set_at : List S := [(.ret (some (.bi .tuple [(.comp (.tup [(.var 3), (.ite (.cmp .eq (.var 3) (.var 1)) (.var 2) (.var 4))]) (.tup [(.nm 3), (.nm 4)]) .seq [(.var 0)] [] [3, 4])])))]
def h_law_set_at (Φ : Fns) (ds : List D) : M D := runB (denSs Φ fuel q_law_set_at) 5 ds
/-- 2091 -/
def q_law_any : List S := [(.ret (some (.ix (.var 1) (.call 2085 [(.var 0), (.bi .len [(.var 1)])]))))]
def h_law_any (Φ : Fns) (ds : List D) : M D := runB (denSs Φ fuel q_law_any) 2 ds
/-- 2092 -/
def q_law_shared : List S := [(.par [0, 1] [(.bi .abs [(.var 0)]), (.bi .abs [(.var 1)])]), (.whl (.cmp .gt (.var 1) (.cst (.int 0))) [(.par [0, 1] [(.var 1), (.bin .mod (.bi .int [(.var 0)]) (.var 1))])]), (.ret (some (.var 0)))]
def h_law_shared (Φ : Fns) (ds : List D) : M D := runB (denSs Φ fuel q_law_shared) 2 ds
/-- 2093 -/
def q_law_low2 : List S := [(.asg (.nm 2) (.call 2092 [(.var 0), (.var 1)])), (.ret (some (.tup [(.bin .fdiv (.var 0) (.var 2)), (.bin .fdiv (.var 1) (.var 2))])))]
def h_law_low2 (Φ : Fns) (ds : List D) : M D := runB (denSs Φ fuel q_law_low2) 3 ds
/-- 2094 -/
def q_law_part2 : List S := [(.asg (.nm 1) (.call 2085 [(.var 0), (.cst (.int 6))])), (.iff (.cmp .lt (.var 1) (.cst (.int 3))) [(.ret (some (.ix (.lst [(.tup [(.cst (.int 0)), (.cst (.int 1))]), (.tup [(.cst (.int 1)), (.cst (.int 1))]), (.tup [(.cst (.int 1)), (.cst (.int 2))])]) (.var 1))))] []), (.asg (.nm 2) (.ite (.and [(.cmp .eq (.var 1) (.cst (.int 5))), (.cmp .eq (.call 2085 [(.var 0), (.cst (.int 5))]) (.cst (.int 0)))]) (.bin .pow (.cst (.int 10)) (.cst (.int 12))) (.bin .add (.cst (.int 1)) (.call 2085 [(.var 0), (.cst (.int 12))])))), (.ret (some (.call 2093 [(.call 2085 [(.var 0), (.bin .add (.bi .min [(.var 2), (.bin .pow (.cst (.int 10)) (.cst (.int 5)))]) (.cst (.int 1)))]), (.var 2)])))]
def h_law_part2 (Φ : Fns) (ds : List D) : M D := runB (denSs Φ fuel q_law_part2) 3 ds
/-- 2095 -/
def q_law_grid : List S := [(.par [3, 4] [(.bin .add (.cst (.int 1)) (.call 2085 [(.var 0), (.var 1)])), (.bin .add (.cst (.int 1)) (.call 2085 [(.var 0), (.var 2)]))]), (.asg (.nm 5) (.call 2086 [(.var 0), (.bin .add (.var 3) (.var 4))])), (.asg (.nm 6) (.cut (.call 2089 [(.var 0), (.var 5)]) none (some (.var 4)))), (.asg (.nm 7) (.lst [])), (.forr (.nm 8) .seq [(.var 5)] [(.asg (.nm 9) (.tup [])), (.forr (.nm 10) .seq [(.var 5)] [(.asg (.nm 9) (.bin .add (.var 9) (.bin .mul (.tup [(.var 10)]) (.bi .int [(.cmp .lt (.call 2085 [(.var 0), (.cst (.int 5))]) (.cst (.int 3)))]))))]), (.asg (.nm 9) (.ite (.cmp .ne (.var 9) (.tup [])) (.var 9) (.tup [(.call 2091 [(.var 0), (.var 5)])]))), (.app 7 (.tup [(.var 8), (.ite (.cmp .inn (.var 8) (.var 6)) (.call 2094 [(.var 0)]) (.var 9))]))]), (.asgI 7 (.bi .tuple [(.var 7)])), (.forr (.nm 8) .seq [(.call 2088 [(.vim 7)])] [(.iff (.cmp .inn (.var 8) (.call 2088 [(.vim 7)])) [(.asg (.nm 11) (.ix (.bi .dict [(.var 7)]) (.var 8))), (.asgI 7 (.call 2090 [(.vim 7), (.var 8), (.bi .tuple [(.srt (.bin .add (.var 11) (.tup [(.call 2091 [(.var 0), (.var 6)])])))])]))] [])]), (.ret (some (.var 7)))]
def h_law_grid (Φ : Fns) (ds : List D) : M D := runB (denSs Φ fuel q_law_grid) 12 ds
/-- 2097 -/
def q_law_plus2 : List S := [(.ret (some (.call 2093 [(.bin .add (.bin .mul (.ix (.var 0) (.cst (.int 0))) (.ix (.var 1) (.cst (.int 1)))) (.bin .mul (.ix (.var 1) (.cst (.int 0))) (.ix (.var 0) (.cst (.int 1))))), (.bin .mul (.ix (.var 0) (.cst (.int 1))) (.ix (.var 1) (.cst (.int 1))))])))]
def h_law_plus2 (Φ : Fns) (ds : List D) : M D := runB (denSs Φ fuel q_law_plus2) 2 ds
/-- 2098 -/
def q_law_is_less : List S := [(.ret (some (.cmp .lt (.bin .mul (.ix (.var 0) (.cst (.int 0))) (.ix (.var 1) (.cst (.int 1)))) (.bin .mul (.ix (.var 1) (.cst (.int 0))) (.ix (.var 0) (.cst (.int 1)))))))]
def h_law_is_less (Φ : Fns) (ds : List D) : M D := runB (denSs Φ fuel q_law_is_less) 2 ds
/-- 2099 -/
def q_law_min : List S := [(.asg (.nm 1) (.ix (.var 0) (.cst (.int 0)))), (.forr (.nm 2) .seq [(.var 0)] [(.asg (.nm 1) (.ite (.call 2098 [(.var 2), (.var 1)]) (.var 2) (.var 1)))]), (.ret (some (.var 1)))]
def h_law_min (Φ : Fns) (ds : List D) : M D := runB (denSs Φ fuel q_law_min) 3 ds
/-- 2100 -/
def q_law_max : List S := [(.asg (.nm 1) (.ix (.var 0) (.cst (.int 0)))), (.forr (.nm 2) .seq [(.var 0)] [(.asg (.nm 1) (.ite (.call 2098 [(.var 1), (.var 2)]) (.var 2) (.var 1)))]), (.ret (some (.var 1)))]
def h_law_max (Φ : Fns) (ds : List D) : M D := runB (denSs Φ fuel q_law_max) 3 ds
/-- 2101 -/
def q_law_mid : List S := [(.asg (.nm 1) (.call 2097 [(.call 2099 [(.var 0)]), (.call 2100 [(.var 0)])])), (.ret (some (.call 2093 [(.ix (.var 1) (.cst (.int 0))), (.bin .mul (.cst (.int 2)) (.ix (.var 1) (.cst (.int 1))))])))]
def h_law_mid (Φ : Fns) (ds : List D) : M D := runB (denSs Φ fuel q_law_mid) 2 ds
/-- 2102 -/
def q_law_back2 : List S := [(.asg (.nm 2) .dnew), (.forr (.tup [(.nm 3), (.nm 4)]) .seq [(.var 0)] [(.setIx 2 (.var 3) (.ite (.call 2087 [(.var 4)]) (.var 4) (.call 2101 [(.comp (.ix (.var 1) (.var 5)) (.nm 5) .seq [(.var 4)] [] [5])])))]), (.ret (some (.var 2)))]
def h_law_back2 (Φ : Fns) (ds : List D) : M D := runB (denSs Φ fuel q_law_back2) 6 ds
/-- 2105 -/
def q_law_minus2 : List S := [(.ret (some (.call 2093 [(.bin .sub (.bin .mul (.ix (.var 0) (.cst (.int 0))) (.ix (.var 1) (.cst (.int 1)))) (.bin .mul (.ix (.var 1) (.cst (.int 0))) (.ix (.var 0) (.cst (.int 1))))), (.bin .mul (.ix (.var 0) (.cst (.int 1))) (.ix (.var 1) (.cst (.int 1))))])))]
def h_law_minus2 (Φ : Fns) (ds : List D) : M D := runB (denSs Φ fuel q_law_minus2) 2 ds
/-- 2108 -/
def q_law_urn : List S := [(.asg (.nm 2) (.ite (.cmp .lt (.var 1) (.bi .len [(.var 0)])) (.ix (.var 0) (.var 1)) (.bin .mul (.cst (.int 52027)) (.bin .add (.var 1) (.cst (.int 5)))))), (.asg (.nm 3) (.bin .add (.cst (.int 31013)) (.bin .mul (.cst (.int 7027)) (.var 1)))), (.forr (.nm 4) .seq [(.bin .add (.cut (.var 0) none (some (.cst (.int 5)))) (.lst [(.var 2)]))] [(.asg (.nm 3) (.bin .mod (.bi .int [(.bin .add (.bin .add (.bin .mul (.var 3) (.cst (.int 41011))) (.bin .mod (.bi .int [(.var 4)]) (.cst (.int 2147482873)))) (.cst (.int 53)))]) (.cst (.int 2147482873))))]), (.ret (some (.lst [(.ite (.or [(.cmp .lt (.var 2) (.cst (.int 0))), (.cmp .ge (.var 2) (.bin .pow (.cst (.int 10)) (.cst (.int 18))))]) (.bi .abs [(.var 2)]) (.cst (.int 0))), (.var 3)])))]
def h_law_urn (Φ : Fns) (ds : List D) : M D := runN (denSs Φ fuel q_law_urn) 5 ds
/-- 2160 -/
def q_law_begin2 : List S := [(.ret (some (.bi .dict [(.comp (.tup [(.var 2), (.ite (.call 2087 [(.var 3)]) (.var 3) (.var 1))]) (.tup [(.nm 2), (.nm 3)]) .seq [(.var 0)] [] [2, 3])])))]
def h_law_begin2 (Φ : Fns) (ds : List D) : M D := runB (denSs Φ fuel q_law_begin2) 4 ds
/-- 2161 -/
def q_law_behind2 : List S := [(.asg (.nm 3) (.call 2160 [(.var 0), (.var 1)])), (.forr (.nm 4) .range1 [(.var 2)] [(.asg (.nm 3) (.call 2102 [(.var 0), (.var 3)]))]), (.ret (some (.var 3)))]
def h_law_behind2 (Φ : Fns) (ds : List D) : M D := runB (denSs Φ fuel q_law_behind2) 5 ds
/-- 2194 -/
def q_law_papers2 : List S := [(.asg (.nm 2) (.call 2085 [(.var 0), (.bi .len [(.var 1)])])), (.asg (.nm 3) (.call 2085 [(.var 0), (.bi .len [(.ix (.var 1) (.var 2))])])), (.asg (.nm 4) (.ix (.ix (.var 1) (.var 2)) (.var 3))), (.asg (.nm 5) (.lst [(.call 2097 [(.var 4), (.tup [(.cst (.int 1)), (.cst (.int 9))])]), (.tup [(.bin .mul (.cst (.int 2)) (.ix (.var 4) (.cst (.int 0)))), (.bin .mul (.cst (.int 2)) (.ix (.var 4) (.cst (.int 1))))]), (.bi .list [(.var 4)]), (.cst .non), (.tup [(.ix (.var 4) (.cst (.int 0))), (.cst (.int 0))]), (.ix (.var 4) (.cst (.int 0)))])), (.asg (.nm 6) (.bin .add (.bin .add (.cut (.ix (.var 1) (.var 2)) none (some (.var 3))) (.tup [(.call 2091 [(.var 0), (.var 5)])])) (.cut (.ix (.var 1) (.var 2)) (some (.bin .add (.var 3) (.cst (.int 1)))) none))), (.asg (.nm 7) (.lst [(.bin .add (.bin .add (.cut (.var 1) none (some (.var 2))) (.tup [(.var 6)])) (.cut (.var 1) (some (.bin .add (.var 2) (.cst (.int 1)))) none)), (.bin .add (.var 1) (.cut (.var 1) (some (.neg (.cst (.int 1)))) none)), (.cut (.var 1) none (some (.neg (.cst (.int 1))))), (.cut (.var 1) (some (.cst (.int 1))) none), (.bi .list [(.var 1)]), (.ix (.var 1) (.cst (.int 0))), (.tup [(.var 1)]), (.cst .non), (.cst (.int 0))])), (.asg (.nm 7) (.bin .add (.var 7) (.lst [(.bin .add (.bin .add (.cut (.var 1) none (some (.var 2))) (.tup [(.bi .list [(.ix (.var 1) (.var 2))])])) (.cut (.var 1) (some (.bin .add (.var 2) (.cst (.int 1)))) none)), (.bin .add (.bin .add (.cut (.var 1) none (some (.var 2))) (.tup [(.cut (.ix (.var 1) (.var 2)) none (some (.neg (.cst (.int 1)))))])) (.cut (.var 1) (some (.bin .add (.var 2) (.cst (.int 1)))) none)), (.tup []), .dnew]))), (.ret (some (.comp (.call 2091 [(.var 0), (.var 7)]) (.nm 8) .range1 [(.cst (.int 5))] [] [8])))]
def h_law_papers2 (Φ : Fns) (ds : List D) : M D := runB (denSs Φ fuel q_law_papers2) 9 ds
/-- 2195 -/
def q_law_right54 : List S := [(.forr (.nm 1) .range1 [(.cst (.int 2))] [(.asg (.tup [(.nm 2), (.nm 3)]) (.tup [(.call 2095 [(.var 0), (.cst (.int 3)), (.cst (.int 2))]), (.call 2085 [(.var 0), (.cst (.int 6))])])), (.asg (.nm 4) (.comp (.call 2161 [(.var 2), (.tup [(.cst (.int 1)), (.cst (.int 1))]), (.var 13)]) (.nm 13) .range1 [(.bin .add (.var 3) (.cst (.int 1)))] [] [13])), (.asg (.nm 5) (.bi .tuple [(.comp (.bi .tuple [(.comp (.ix (.var 14) (.var 6)) (.tup [(.nm 6), (.nm 7)]) .seq [(.var 2)] [] [6, 7])]) (.nm 14) .seq [(.var 4)] [] [14])])), (.forr (.tup [(.nm 6), (.nm 7)]) .seq [(.var 2)] [(.asg (.nm 8) (.ix (.ix (.var 4) (.neg (.cst (.int 1)))) (.var 6))), (.asg (.nm 9) (.call 2091 [(.var 0), (.lst [(.var 8), (.var 8), (.call 2105 [(.var 8), (.tup [(.cst (.int 1)), (.bin .pow (.cst (.int 10)) (.cst (.int 13)))])]), (.call 2094 [(.var 0)]), (.tup [(.neg (.cst (.int 1))), (.cst (.int 1))]), (.tup [(.cst (.int 5)), (.cst (.int 4))])])])), (.asg (.nm 10) (.tup [(.cst (.str "within")), (.var 2), (.var 6), (.var 3), (.var 9)])), (.asg (.nm 11) (.cmp .eq (.var 9) (.var 8))), (.iff (.cmp .ne (.bi .repr [(.lst [(.call 104 [(.var 10), (.var 5)]), (.callK 104 [] [(.var 5), (.var 10)] [1, 0])])]) (.bi .repr [(.lst [(.var 11), (.var 11)])])) [(.ret (some (.cst (.bl false))))] []), (.asg (.nm 10) (.tup [(.cst (.str "within")), (.var 2), (.var 6), (.var 3), (.var 8)])), (.asg (.nm 12) (.comp (.call 104 [(.var 10), (.var 15)]) (.nm 15) .seq [(.call 2194 [(.var 0), (.var 5)])] [] [15])), (.app 12 (.call 104 [(.tup [(.cst (.str "within")), (.var 2), (.var 6), (.bin .add (.var 3) (.cst (.int 1))), (.var 8)]), (.var 5)])), (.iff (.cmp .ne (.bi .repr [(.var 12)]) (.bi .repr [(.bin .mul (.lst [(.cst (.bl false))]) (.cst (.int 6)))])) [(.ret (some (.cst (.bl false))))] [])])]), (.ret (some (.cst (.bl true))))]
def h_law_right54 (Φ : Fns) (ds : List D) : M D := runB (denSs Φ fuel q_law_right54) 16 ds
/-- 2199 -/
def q_law_none2 : List S := [(.asg (.nm 2) (.lst [(.tup [(.cst (.str "needs")), (.var 1), (.cst (.str "a"))]), (.tup [(.cst (.str "needs")), (.var 1), (.cst (.str "a")), (.tup [(.cst (.int 1)), (.cst (.int 2))]), (.cst (.int 0))]), (.lst [(.cst (.str "needs")), (.var 1), (.cst (.str "a")), (.tup [(.cst (.int 1)), (.cst (.int 2))])])])), (.asg (.nm 2) (.bin .add (.var 2) (.lst [(.tup [(.cst (.str "need")), (.var 1), (.cst (.str "a")), (.tup [(.cst (.int 1)), (.cst (.int 2))])])]))), (.asg (.nm 2) (.bin .add (.var 2) (.lst [(.tup [(.cst (.str "needs")), (.var 1), (.cst (.str "z")), (.tup [(.cst (.int 1)), (.cst (.int 2))])]), (.tup [(.cst (.str "needs")), (.var 1), (.cst .non), (.tup [(.cst (.int 1)), (.cst (.int 2))])]), (.tup [(.cst (.str "needs")), (.var 1), (.cst (.str "a")), (.tup [(.cst (.int 2)), (.cst (.int 4))])])]))), (.asg (.nm 2) (.bin .add (.var 2) (.lst [(.tup [(.cst (.str "needs")), (.var 1), (.cst (.str "a")), (.cst (.int 1))])]))), (.asg (.nm 2) (.bin .add (.var 2) (.lst [(.tup [(.cst (.str "above")), (.var 1), (.cst (.str "a")), (.tup [(.cst (.int 1)), (.cst (.int 0))])]), (.tup [(.cst (.str "below")), (.var 1), (.cst (.str "a")), (.lst [(.cst (.int 2)), (.cst (.int 3))])])]))), (.asg (.nm 2) (.bin .add (.var 2) (.lst [(.tup [(.cst (.str "above")), (.var 1), (.tup [(.cst (.str "a"))]), (.tup [(.cst (.int 0)), (.cst (.int 1))])]), (.tup [(.cst (.str "needs")), (.cst (.str "a")), (.var 1), (.tup [(.cst (.int 1)), (.cst (.int 2))])])]))), (.asg (.nm 2) (.bin .add (.var 2) (.lst [(.tup [(.cst (.str "within")), (.var 1), (.cst (.str "a")), (.cst (.int 1))]), (.tup [(.cst (.str "within")), (.var 1), (.cst (.str "a")), (.neg (.cst (.int 1))), (.tup [(.cst (.int 1)), (.cst (.int 1))])])]))), (.asg (.nm 2) (.bin .add (.var 2) (.lst [(.tup [(.cst (.str "within")), (.var 1), (.cst (.str "a")), (.cst (.int 61)), (.tup [(.cst (.int 1)), (.cst (.int 2))])]), (.tup [(.cst (.str "within")), (.var 1), (.cst (.str "a")), (.cst (.bl true)), (.tup [(.cst (.int 1)), (.cst (.int 2))])])]))), (.asg (.nm 2) (.bin .add (.var 2) (.lst [(.tup [(.cst (.str "within")), (.var 1), (.cst (.str "a")), (.cst (.int 0)), (.cst (.int 1))]), (.tup [(.cst (.str "within")), (.var 1), (.cst (.str "a")), (.cst (.str "0")), (.tup [(.cst (.int 1)), (.cst (.int 1))])])]))), (.asg (.nm 2) (.bin .add (.var 2) (.lst [(.tup [(.cst (.str "within")), (.var 1), (.cst (.str "a")), (.tup [(.cst (.int 1)), (.cst (.int 1))]), (.cst (.int 0))]), (.tup [(.cst (.str "Needs")), (.var 1), (.cst (.str "a")), (.tup [(.cst (.int 1)), (.cst (.int 2))])])]))), (.asg (.nm 2) (.bin .add (.var 2) (.lst [(.tup [(.cst (.str "safe")), (.var 1), (.cst (.str "a")), (.tup [(.cst (.int 3)), (.cst (.int 4))]), (.tup [(.cst (.int 1)), (.cst (.int 2))])]), (.tup [(.cst (.str "safe")), (.var 1), (.cst (.str "a")), (.tup [(.cst (.int 3)), (.cst (.int 2))]), (.tup [(.cst (.int 1)), (.cst (.int 2))]), (.cst (.str "b"))])]))), (.asg (.nm 2) (.bin .add (.var 2) (.lst [(.tup [(.cst (.str "safe")), (.var 1), (.cst (.str "a")), (.tup [(.cst (.int 3)), (.cst (.int 4))]), (.tup [(.neg (.cst (.int 1))), (.cst (.int 2))]), (.cst (.str "b"))])]))), (.asg (.nm 2) (.bin .add (.var 2) (.lst [(.tup [(.cst (.str "safe")), (.var 1), (.cst (.str "a")), (.tup [(.cst (.int 3)), (.cst (.int 4))]), (.tup [(.cst (.int 1)), (.cst (.int 2))]), (.cst (.str "z"))]), (.tup [(.cst (.str "safe")), (.var 1), (.cst (.str "a")), (.tup [(.cst (.int 3)), (.cst (.int 4))]), (.tup [(.cst (.int 1)), (.cst (.int 2))]), (.cst .non)])]))), (.asg (.nm 2) (.bin .add (.var 2) (.lst [(.tup [(.cst (.str "safe")), (.var 1), (.cst (.str "a")), (.cst (.int 1)), (.tup [(.cst (.int 1)), (.cst (.int 2))]), (.cst (.str "b"))])]))), (.asg (.nm 2) (.bin .add (.var 2) (.lst [(.cst .non), (.cst (.int 5)), (.cst (.str "needs")), (.tup []), (.lst []), .dnew, (.tup [(.tup [(.cst (.str "needs"))]), (.var 1), (.cst (.str "a")), (.tup [(.cst (.int 1)), (.cst (.int 2))])]), (.tup [(.cst (.str "needs"))]), (.var 1), (.cst (.bl true))]))), (.asg (.nm 2) (.bin .add (.var 2) (.lst [(.tup [(.cst (.str "")), (.var 1), (.cst (.str "a")), (.tup [(.cst (.int 1)), (.cst (.int 2))])])]))), (.ret (some (.call 2091 [(.var 0), (.var 2)])))]
def h_law_none2 (Φ : Fns) (ds : List D) : M D := runB (denSs Φ fuel q_law_none2) 3 ds
/-- 2200 -/
def q_law_bad_rows : List S := [(.asg (.nm 1) (.lst [(.tup []), (.cst .non), (.lst [(.tup [(.cst (.str "a")), (.tup [(.cst (.int 0)), (.cst (.int 1))])])]), (.tup [(.tup [(.cst (.str "a")), (.tup [(.cst (.int 0)), (.cst (.int 1))])]), (.tup [(.cst (.str "a")), (.tup [(.cst (.int 1)), (.cst (.int 1))])])])])), (.asg (.nm 1) (.bin .add (.var 1) (.lst [(.tup [(.tup [(.cst (.str "b")), (.tup [(.cst (.int 0)), (.cst (.int 1))])]), (.tup [(.cst (.str "a")), (.tup [(.cst (.int 0)), (.cst (.int 1))])])])]))), (.asg (.nm 1) (.bin .add (.var 1) (.lst [(.tup [(.tup [(.cst (.str "a")), (.tup [(.cst (.str "b"))])]), (.tup [(.cst (.str "b")), (.tup [(.cst (.str "a"))])])]), (.tup [(.tup [(.cst (.str "a")), (.tup [(.cst (.str "c"))])]), (.tup [(.cst (.str "b")), (.tup [(.cst (.int 0)), (.cst (.int 1))])])]), (.tup [(.tup [(.cst (.str "a")), (.tup [(.cst (.int 2)), (.cst (.int 4))])])])]))), (.asg (.nm 1) (.bin .add (.var 1) (.lst [(.tup [(.tup [(.cst (.str "a")), (.tup [(.cst (.int 3)), (.cst (.int 2))])])])]))), (.asg (.nm 1) (.bin .add (.var 1) (.lst [(.tup [(.tup [(.cst (.str "a")), (.tup [(.cst (.int 1)), (.bin .add (.bin .pow (.cst (.int 10)) (.cst (.int 12))) (.cst (.int 1)))])])]), (.tup [(.tup [(.cst (.str "a")), (.tup [])])]), (.tup [(.tup [(.cst (.str "a")), (.lst [(.cst (.str "b"))])]), (.tup [(.cst (.str "b")), (.tup [(.cst (.int 0)), (.cst (.int 1))])])])]))), (.asg (.nm 1) (.bin .add (.var 1) (.lst [(.tup [(.tup [(.cst (.str "A")), (.tup [(.cst (.int 0)), (.cst (.int 1))])])])]))), (.asg (.nm 1) (.bin .add (.var 1) (.lst [(.tup [(.tup [(.cst (.str "a")), (.tup [(.cst (.str "b")), (.cst (.str "b"))])]), (.tup [(.cst (.str "b")), (.tup [(.cst (.int 0)), (.cst (.int 1))])])]), (.tup [(.tup [(.cst (.str "a")), (.tup [(.cst (.int 0)), (.cst (.int 1))]), (.cst (.int 0))])]), (.tup [(.lst [(.cst (.str "a")), (.tup [(.cst (.int 0)), (.cst (.int 1))])])])]))), (.asg (.nm 1) (.bin .add (.var 1) (.lst [(.tup [(.tup [(.cst (.str "ab")), (.tup [(.cst (.int 0)), (.cst (.int 1))])])])]))), (.asg (.nm 1) (.bin .add (.var 1) (.lst [(.tup [(.tup [(.cst (.str "a")), (.tup [(.cst (.str "c")), (.cst (.str "b"))])]), (.tup [(.cst (.str "b")), (.tup [(.cst (.int 0)), (.cst (.int 1))])]), (.tup [(.cst (.str "c")), (.tup [(.cst (.int 1)), (.cst (.int 1))])])]), (.tup [(.tup [(.cst (.str "a")), (.tup [(.cst (.bl true)), (.cst (.int 1))])])])]))), (.asg (.nm 1) (.bin .add (.var 1) (.lst [(.tup [(.tup [(.cst (.str "a")), (.cst (.str "b"))]), (.tup [(.cst (.str "b")), (.tup [(.cst (.int 0)), (.cst (.int 1))])])])]))), (.ret (some (.call 2091 [(.var 0), (.bin .add (.var 1) (.lst [(.bi .tuple [(.comp (.tup [(.var 2), (.tup [(.cst (.int 0)), (.cst (.int 1))])]) (.nm 2) .seq [(.cst (.str "abcdefghijk"))] [] [2])]), (.cst (.str "a = 0/1")), (.tup [(.tup [(.cst (.str "a")), (.tup [(.cst (.int 0))])])])]))])))]
def h_law_bad_rows (Φ : Fns) (ds : List D) : M D := runB (denSs Φ fuel q_law_bad_rows) 3 ds
/-- 2201 -/
def q_law_path2 : List S := [(.par [1, 2] [(.cut (.cst (.str "abcdefghij")) none (some (.bin .add (.var 0) (.cst (.int 2))))), (.lst [(.tup [(.cst (.str "a")), (.tup [(.cst (.int 0)), (.cst (.int 1))])])])]), (.forr (.nm 3) .range2 [(.cst (.int 1)), (.bin .add (.var 0) (.cst (.int 1)))] [(.app 2 (.tup [(.ix (.var 1) (.var 3)), (.tup [(.ix (.var 1) (.bin .sub (.var 3) (.cst (.int 1)))), (.ix (.var 1) (.bin .add (.var 3) (.cst (.int 1))))])]))]), (.ret (some (.bi .tuple [(.bin .add (.var 2) (.lst [(.tup [(.ix (.var 1) (.bin .add (.var 0) (.cst (.int 1)))), (.tup [(.cst (.int 1)), (.cst (.int 1))])])]))])))]
def h_law_path2 (Φ : Fns) (ds : List D) : M D := runB (denSs Φ fuel q_law_path2) 4 ds
/-- 2202 -/
def q_law_right56 : List S := [(.asg (.nm 1) (.tup [(.tup [(.cst (.str "a")), (.tup [(.cst (.str "b")), (.cst (.str "c"))])]), (.tup [(.cst (.str "b")), (.tup [(.cst (.int 0)), (.cst (.int 1))])]), (.tup [(.cst (.str "c")), (.tup [(.cst (.int 1)), (.cst (.int 1))])])])), (.asg (.tup [(.nm 2), (.nm 3)]) (.tup [(.tup [(.tup [(.cst (.int 1)), (.cst (.int 2))]), (.tup [(.cst (.int 0)), (.cst (.int 1))]), (.tup [(.cst (.int 1)), (.cst (.int 1))])]), (.tup [(.tup [(.tup [(.cst (.int 1)), (.cst (.int 1))]), (.tup [(.cst (.int 0)), (.cst (.int 1))]), (.tup [(.cst (.int 1)), (.cst (.int 1))])]), (.tup [(.tup [(.cst (.int 1)), (.cst (.int 2))]), (.tup [(.cst (.int 0)), (.cst (.int 1))]), (.tup [(.cst (.int 1)), (.cst (.int 1))])])])])), (.asg (.nm 4) (.lst [(.var 2), (.var 3), (.cut (.var 3) none (some (.cst (.int 1)))), (.tup []), (.cst .non), (.tup [(.tup [(.cst (.int 0)), (.cst (.int 1))])]), (.tup [(.tup [(.cst (.int 1)), (.cst (.int 1))])]), (.tup [(.tup [(.cst (.int 0)), (.cst (.int 1))]), (.tup [(.cst (.int 0)), (.cst (.int 1))])]), (.tup [(.tup [(.cst (.int 1)), (.cst (.int 2))])])])), (.forr (.nm 5) .range1 [(.cst (.int 24))] [(.asg (.nm 9) (.call 2199 [(.var 0), (.var 1)])), (.iff (.cmp .eq (.call 2085 [(.var 0), (.cst (.int 2))]) (.cst (.int 0))) [(.par [11, 12] [(.call 2091 [(.var 0), (.lst [(.cst (.str "needs")), (.cst (.str "above")), (.cst (.str "below"))])]), (.call 2091 [(.var 0), (.lst [(.tup [(.cst (.int 0)), (.cst (.int 1))]), (.tup [(.neg (.cst (.int 1))), (.cst (.int 1))]), (.tup [(.cst (.int 2)), (.cst (.int 1))])])])]), (.asg (.nm 9) (.tup [(.var 11), (.call 2200 [(.var 0)]), (.cst (.str "a")), (.var 12)]))] []), (.asg (.nm 10) (.bin .add (.comp (.call 104 [(.var 9), (.var 14)]) (.nm 14) .seq [(.var 4)] [] [14]) (.lst [(.callK 104 [] [(.var 2), (.var 9)] [1, 0])]))), (.iff (.cmp .ne (.bi .repr [(.var 10)]) (.bi .repr [(.bin .mul (.lst [(.cst (.bl false))]) (.cst (.int 10)))])) [(.ret (some (.cst (.bl false))))] [])]), (.asg (.nm 6) (.bin .add (.cst (.int 1)) (.call 2085 [(.var 0), (.cst (.int 8))]))), (.asg (.nm 7) (.bi .tuple [(.comp (.call 2093 [(.var 13), (.bin .add (.var 6) (.cst (.int 1)))]) (.nm 13) .range1 [(.bin .add (.var 6) (.cst (.int 2)))] [] [13])])), (.asg (.nm 8) (.lst [(.tup [(.tup [(.cst (.str "needs")), (.var 1), (.cst (.str "a")), (.tup [(.cst (.int 1)), (.cst (.int 2))])]), (.var 2)]), (.tup [(.tup [(.cst (.str "above")), (.var 1), (.cst (.str "a")), (.tup [(.neg (.cst (.int 1))), (.cst (.int 2))])]), (.var 2)])])), (.asg (.nm 8) (.bin .add (.var 8) (.lst [(.tup [(.tup [(.cst (.str "below")), (.var 1), (.cst (.str "a")), (.tup [(.cst (.int 3)), (.cst (.int 1))])]), (.var 2)])]))), (.asg (.nm 8) (.bin .add (.var 8) (.lst [(.tup [(.tup [(.cst (.str "within")), (.var 1), (.cst (.str "a")), (.cst (.int 1)), (.tup [(.cst (.int 1)), (.cst (.int 2))])]), (.var 3)])]))), (.asg (.nm 8) (.bin .add (.var 8) (.lst [(.tup [(.tup [(.cst (.str "safe")), (.var 1), (.cst (.str "a")), (.tup [(.cst (.int 3)), (.cst (.int 4))]), (.tup [(.cst (.int 1)), (.cst (.int 2))]), (.cst (.str "b"))]), (.var 2)])]))), (.asg (.nm 8) (.bin .add (.var 8) (.lst [(.tup [(.tup [(.cst (.str "within")), (.var 1), (.cst (.str "a")), (.cst (.int 60)), (.tup [(.cst (.int 1)), (.cst (.int 2))])]), (.bin .add (.cut (.var 3) none (some (.cst (.int 1)))) (.bin .mul (.cut (.var 3) (some (.cst (.int 1))) none) (.cst (.int 60))))])]))), (.asg (.nm 8) (.bin .add (.var 8) (.lst [(.tup [(.tup [(.cst (.str "needs")), (.call 2201 [(.var 6)]), (.cst (.str "b")), (.call 2093 [(.cst (.int 1)), (.bin .add (.var 6) (.cst (.int 1)))])]), (.var 7)])]))), (.asg (.nm 8) (.bin .add (.var 8) (.lst [(.tup [(.tup [(.cst (.str "needs")), (.tup [(.tup [(.cst (.str "q")), (.tup [(.cst (.int 1)), (.cst (.int 2))])])]), (.cst (.str "q")), (.tup [(.cst (.int 1)), (.cst (.int 2))])]), (.tup [(.tup [(.cst (.int 1)), (.cst (.int 2))])])])]))), (.ret (some (.cmp .eq (.bi .repr [(.comp (.call 104 [(.var 15), (.var 14)]) (.tup [(.nm 15), (.nm 14)]) .seq [(.var 8)] [] [15, 14])]) (.bi .repr [(.bin .mul (.lst [(.cst (.bl true))]) (.cst (.int 8)))]))))]
def h_law_right56 (Φ : Fns) (ds : List D) : M D := runB (denSs Φ fuel q_law_right56) 16 ds
/-- 2203 -/
def q_law_path3 : List S := [(.asg (.nm 3) (.lst [(.tup [(.ix (.var 0) (.cst (.int 0))), (.var 1)])])), (.forr (.nm 4) .range2 [(.cst (.int 1)), (.bin .sub (.bi .len [(.var 0)]) (.cst (.int 1)))] [(.app 3 (.tup [(.ix (.var 0) (.var 4)), (.tup [(.ix (.var 0) (.bin .sub (.var 4) (.cst (.int 1)))), (.ix (.var 0) (.bin .add (.var 4) (.cst (.int 1))))])]))]), (.ret (some (.bi .tuple [(.bin .add (.var 3) (.lst [(.tup [(.ix (.var 0) (.neg (.cst (.int 1)))), (.var 2)])]))])))]
def h_law_path3 (Φ : Fns) (ds : List D) : M D := runB (denSs Φ fuel q_law_path3) 5 ds
/-- 2204 -/
def q_law_path_right : List S := [(.asg (.tup [(.nm 5), (.nm 6)]) (.tup [(.call 2203 [(.var 2), (.var 3), (.var 4)]), (.call 2105 [(.var 4), (.var 3)])])), (.asg (.nm 7) (.bi .tuple [(.comp (.call 2097 [(.var 3), (.call 2093 [(.bin .mul (.ix (.var 6) (.cst (.int 0))) (.var 16)), (.bin .mul (.ix (.var 6) (.cst (.int 1))) (.bin .add (.var 1) (.cst (.int 1))))])]) (.nm 16) .range1 [(.bin .add (.var 1) (.cst (.int 2)))] [] [16])])), (.par [8, 9] [(.bin .add (.cst (.int 1)) (.call 2085 [(.var 0), (.var 1)])), (.tup [(.cst (.int 1)), (.bin .add (.bin .pow (.cst (.int 10)) (.cst (.int 9))) (.call 2085 [(.var 0), (.cst (.int 99))]))])]), (.par [10, 11] [(.ix (.var 2) (.var 8)), (.ix (.var 7) (.var 8))]), (.par [12, 13] [(.call 2097 [(.var 11), (.var 9)]), (.call 2105 [(.var 11), (.var 9)])]), (.asg (.nm 14) (.lst [(.call 104 [(.tup [(.cst (.str "needs")), (.var 5), (.var 10), (.var 11)]), (.var 7)]), (.call 104 [(.tup [(.cst (.str "needs")), (.var 5), (.var 10), (.var 12)]), (.var 7)])])), (.asg (.nm 14) (.bin .add (.var 14) (.lst [(.call 104 [(.tup [(.cst (.str "above")), (.var 5), (.var 10), (.var 13)]), (.var 7)]), (.call 104 [(.tup [(.cst (.str "above")), (.var 5), (.var 10), (.var 11)]), (.var 7)])]))), (.asg (.nm 14) (.bin .add (.var 14) (.lst [(.call 104 [(.tup [(.cst (.str "above")), (.var 5), (.var 10), (.var 12)]), (.var 7)]), (.call 104 [(.tup [(.cst (.str "below")), (.var 5), (.var 10), (.var 12)]), (.var 7)])]))), (.asg (.nm 14) (.bin .add (.var 14) (.lst [(.call 104 [(.tup [(.cst (.str "below")), (.var 5), (.var 10), (.var 11)]), (.var 7)]), (.call 104 [(.tup [(.cst (.str "below")), (.var 5), (.var 10), (.var 13)]), (.var 7)])]))), (.asg (.nm 15) (.bin .add (.bin .add (.cut (.var 7) none (some (.var 8))) (.tup [(.var 12)])) (.cut (.var 7) (some (.bin .add (.var 8) (.cst (.int 1)))) none))), (.asg (.nm 14) (.bin .add (.var 14) (.lst [(.call 104 [(.tup [(.cst (.str "needs")), (.var 5), (.var 10), (.var 12)]), (.var 15)]), (.call 104 [(.tup [(.cst (.str "below")), (.var 5), (.ix (.var 2) (.cst (.int 0))), (.tup [(.cst (.int 2)), (.cst (.int 1))])]), (.var 15)])]))), (.ret (some (.cmp .eq (.bi .repr [(.var 14)]) (.bi .repr [(.lst [(.cst (.bl true)), (.cst (.bl false)), (.cst (.bl true)), (.cst (.bl false)), (.cst (.bl false)), (.cst (.bl true)), (.cst (.bl false)), (.cst (.bl false)), (.cst (.bl false)), (.cst (.bl false))])]))))]
def h_law_path_right (Φ : Fns) (ds : List D) : M D := runB (denSs Φ fuel q_law_path_right) 17 ds
/-- 2205 -/
def q_law_fork_right : List S := [(.par [4, 5] [(.call 2099 [(.lst [(.var 2), (.var 3)])]), (.call 2100 [(.lst [(.var 2), (.var 3)])])]), (.par [6, 7] [(.tup [(.tup [(.ix (.var 1) (.cst (.int 0))), (.tup [(.ix (.var 1) (.cst (.int 1))), (.ix (.var 1) (.cst (.int 2)))])]), (.tup [(.ix (.var 1) (.cst (.int 1))), (.var 4)]), (.tup [(.ix (.var 1) (.cst (.int 2))), (.var 5)])]), (.call 2101 [(.lst [(.var 2), (.var 3)])])]), (.par [8, 9] [(.tup [(.tup [(.cst (.int 1)), (.cst (.int 1))]), (.var 4), (.var 5)]), (.tup [(.var 7), (.var 4), (.var 5)])]), (.asg (.nm 10) (.lst [(.call 104 [(.tup [(.cst (.str "within")), (.var 6), (.ix (.var 1) (.cst (.int 0))), (.cst (.int 0)), (.tup [(.cst (.int 1)), (.cst (.int 1))])]), (.tup [(.var 8)])])])), (.app 10 (.call 104 [(.tup [(.cst (.str "within")), (.var 6), (.ix (.var 1) (.cst (.int 0))), (.cst (.int 1)), (.var 7)]), (.tup [(.var 8), (.var 9)])])), (.app 10 (.call 104 [(.tup [(.cst (.str "within")), (.var 6), (.ix (.var 1) (.cst (.int 0))), (.cst (.int 2)), (.var 7)]), (.tup [(.var 8), (.var 9), (.var 9)])])), (.app 10 (.and [(.cmp .ne (.var 7) (.tup [(.cst (.int 1)), (.cst (.int 1))])), (.call 104 [(.tup [(.cst (.str "within")), (.var 6), (.ix (.var 1) (.cst (.int 0))), (.cst (.int 1)), (.var 7)]), (.tup [(.var 9), (.var 9)])])])), (.app 10 (.call 104 [(.tup [(.cst (.str "within")), (.var 6), (.ix (.var 1) (.cst (.int 1))), (.cst (.int 0)), (.var 4)]), (.tup [(.var 8)])])), (.iff (.cmp .ne (.bi .repr [(.var 10)]) (.bi .repr [(.lst [(.cst (.bl true)), (.cst (.bl true)), (.cst (.bl true)), (.cst (.bl false)), (.cst (.bl true))])])) [(.ret (some (.cst (.bl false))))] []), (.asg (.nm 11) (.call 2101 [(.lst [(.var 7), (.tup [(.cst (.int 1)), (.cst (.int 1))])])])), (.iff (.cmp .eq (.var 7) (.tup [(.cst (.int 1)), (.cst (.int 1))])) [(.ret (some (.not (.call 104 [(.tup [(.cst (.str "safe")), (.var 6), (.ix (.var 1) (.cst (.int 0))), (.tup [(.cst (.int 1)), (.cst (.int 1))]), (.tup [(.cst (.int 0)), (.cst (.int 1))]), (.ix (.var 1) (.cst (.int 1)))]), (.var 9)]))))] []), (.par [12, 13] [(.call 2105 [(.var 5), (.var 11)]), (.call 2105 [(.var 11), (.var 4)])]), (.asg (.nm 14) (.call 2101 [(.lst [(.call 2100 [(.lst [(.var 12), (.tup [(.cst (.int 0)), (.cst (.int 1))])])]), (.var 13)])])), (.asg (.nm 10) (.lst [(.call 104 [(.tup [(.cst (.str "safe")), (.var 6), (.ix (.var 1) (.cst (.int 0))), (.var 11), (.var 14), (.ix (.var 1) (.cst (.int 1)))]), (.var 9)])])), (.app 10 (.call 104 [(.tup [(.cst (.str "safe")), (.var 6), (.ix (.var 1) (.cst (.int 0))), (.var 11), (.call 2099 [(.lst [(.var 13), (.tup [(.cst (.int 1)), (.cst (.int 1))])])]), (.ix (.var 1) (.cst (.int 1)))]), (.var 9)])), (.asg (.nm 15) (.call 2100 [(.lst [(.var 12), (.tup [(.cst (.int 0)), (.cst (.int 1))])])])), (.app 10 (.and [(.cmp .ge (.ix (.var 12) (.cst (.int 0))) (.cst (.int 0))), (.call 104 [(.tup [(.cst (.str "safe")), (.var 6), (.ix (.var 1) (.cst (.int 0))), (.var 11), (.var 15), (.ix (.var 1) (.cst (.int 1)))]), (.var 9)])])), (.ret (some (.cmp .eq (.bi .repr [(.var 10)]) (.bi .repr [(.lst [(.cst (.bl true)), (.cst (.bl false)), (.cst (.bl false))])]))))]
def h_law_fork_right (Φ : Fns) (ds : List D) : M D := runB (denSs Φ fuel q_law_fork_right) 16 ds
/-- 2206 -/
def q_law_right57 : List S := [(.par [1, 2, 3] [(.bin .add (.cst (.int 1)) (.call 2085 [(.var 0), (.cst (.int 6))])), (.call 2094 [(.var 0)]), (.call 2094 [(.var 0)])]), (.asg (.nm 4) (.call 2086 [(.var 0), (.bin .add (.var 1) (.cst (.int 2)))])), (.ret (some (.and [(.call 2204 [(.var 0), (.var 1), (.var 4), (.var 2), (.var 3)]), (.call 2205 [(.var 0), (.var 4), (.var 2), (.var 3)])])))]
def h_law_right57 (Φ : Fns) (ds : List D) : M D := runB (denSs Φ fuel q_law_right57) 5 ds
end RF
end
section
set_option linter.all false
set_option maxRecDepth 100000
set_option maxHeartbeats 4000000
set_option autoImplicit false
/-! RfRun: how terms run, rule by rule, at a given store (so that nothing below a binder is touched). -/
namespace RF
open PySem (Str)

def cF (Φ : Fns) (c : X) : En → M Bool := fun δ => do asB (← denX Φ c δ)
def bF (Φ : Fns) (N : Nat) (b : List S) : En → M Fl := fun δ => denSs Φ N b δ
def fF (Φ : Fns) (N : Nat) (t : Tg) (b : List S) : D → En → M Fl := fun d δ' => do
  let δ'' ← M.ofO (bindT t d δ')
  denSs Φ N b δ''
def kF (Φ : Fns) (tg : Tg) (ifs : List X) (e : X) (own : List Nat) (δ : En) : D → M (Option D) := fun d => do
  let δ' ← M.ofO (bindT tg d (wipe δ own))
  if ← denAnd Φ ifs δ' then do pure (some (← denX Φ e δ')) else pure none
/-- go on -/
def Out.go {α β : Type} (x : Out α) (k : α → M β) : Out β := match x with
  | .ok a s => k a s
  | .exc e s => .exc e s
  | .no => .no
section
variable {α β : Type} {Φ : Fns} {N : Nat} {δ δ' : En} {s s' : Sto} {k : α → M β} {a b c e x : X} {l as es : List X} {d : D} {i j n f : Nat}
@[simp] theorem go_ok {a : α} : (Out.ok a s).go k = k a s := by first | (simp only [Out.go]; done) | (simp only [Out.nxt, Out.ret, Out.retN, Out.go]; done)
@[simp] theorem go_exc : (Out.exc d s : Out α).go k = .exc d s := by first | (simp only [Out.go]; done) | (simp only [Out.nxt, Out.ret, Out.retN, Out.go]; done)
@[simp] theorem go_no : (Out.no : Out α).go k = .no := by first | (simp only [Out.go]; done) | (simp only [Out.nxt, Out.ret, Out.retN, Out.go]; done)
theorem bind_go {m : M α} : (m >>= k) s = (m s).go k := by rw [M.bind_run]; cases m s <;> rfl
@[simp] theorem pure_run2 {a : α} : (Pure.pure a : M α) s = .ok a s := rfl
@[simp] theorem ofO_some {a : α} : M.ofO (some a) s = .ok a s := rfl
@[simp] theorem ofO_none : (M.ofO (none : Option α)) s = .no := rfl
/-- a bool -/
def Out.bool (x : Out D) : Out Bool := x.go asB
@[simp] theorem asB_bl {b : Bool} : asB (.bl b) s = .ok b s := rfl
@[simp] theorem bool_bl {b : Bool} : (Out.ok (.bl b) s).bool = .ok b s := rfl
@[simp] theorem bool_no : (Out.no : Out D).bool = .no := rfl
@[simp] theorem getV_run : getV δ i s = (match δ[i]? with
  | some (some d) => .ok d s
  | _ => .no) := by
  unfold getV
  split <;> simp_all
/-! expressions -/
@[simp] theorem r_var : denX Φ (.var i) δ s = getV δ i s := rfl
@[simp] theorem r_cst : denX Φ (.cst d) δ s = .ok d s := rfl
@[simp] theorem r_gl : denX Φ (.gl i) δ s = .ok (Φ.gl i) s := rfl
@[simp] theorem r_call : denX Φ (.call f as) δ s = (denXs Φ as δ s).go (Φ.fn f) := bind_go
@[simp] theorem r_callK {ks : List X} {pm : List Nat} : denX Φ (.callK f as ks pm) δ s = (denXs Φ as δ s).go fun a s => (denXs Φ ks δ s).go fun c s => Φ.fn f (permD pm (a ++ c)) s := by
  rfl
@[simp] theorem r_bi {B : Bi} : denX Φ (.bi B as) δ s = (denXs Φ as δ s).go (biD B) := bind_go
@[simp] theorem r_bin {op : Bop} : denX Φ (.bin op a b) δ s = (denX Φ a δ s).go fun x s => (denX Φ b δ s).go (binD op x) := by
  rfl
@[simp] theorem r_addN : denX Φ (.addN a b) δ s = (denX Φ a δ s).go fun x s => (denX Φ b δ s).go (addNF x) := by
  rfl
@[simp] theorem r_mulN : denX Φ (.mulN a b) δ s = (denX Φ a δ s).go fun x s => (denX Φ b δ s).go (mulNF x) := by
  rfl
def negF : D → M D
  | .int i => pure (.int (-i))
  | _ => M.no
@[simp] theorem negF_int {i : Int} : negF (.int i) s = .ok (.int (-i)) s := rfl
@[simp] theorem r_neg : denX Φ (.neg a) δ s = (denX Φ a δ s).go negF := by
  refine bind_go.trans (congrArg (Out.go _) (funext fun x => funext fun s => ?_))
  cases x <;> rfl
@[simp] theorem r_cmp {op : Cop} : denX Φ (.cmp op a b) δ s = (denX Φ a δ s).go fun x s => (denX Φ b δ s).go (cmpD op x) := by
  rfl
@[simp] theorem r_chain {op op' : Cop} : denX Φ (.chain op op' a b c) δ s = (denX Φ a δ s).go fun x s => (denX Φ b δ s).go fun y s => (cmpD op x y s).bool.go fun k s => if k = true then (denX Φ c δ s).go (cmpD op' y) else .ok (.bl false) s := by
  refine (show _ = ((denX Φ a δ s).go fun x s => (denX Φ b δ s).go fun y s => (cmpD op x y s).go fun z s => (asB z s).go fun k s => (if k = true then denX Φ c δ >>= fun z => cmpD op' y z else pure (D.bl false) : M D) s) from rfl).trans ?_
  congr 1
  funext x s
  congr 1
  funext y s
  unfold Out.bool
  cases cmpD op x y s with
  | ok z s =>
    simp only [go_ok]
    cases asB z s with
    | ok k s => cases k <;> rfl
    | exc _ _ => rfl
    | no => rfl
  | exc _ _ => rfl
  | no => rfl
@[simp] theorem r_and : denX Φ (.and l) δ s = (denAnd Φ l δ s).go fun b s => .ok (.bl b) s := by
  rfl
@[simp] theorem r_or : denX Φ (.or l) δ s = (denOr Φ l δ s).go fun b s => .ok (.bl b) s := by
  rfl
@[simp] theorem r_not : denX Φ (.not a) δ s = (denX Φ a δ s).bool.go fun b s => .ok (.bl (!b)) s := by
  refine (show _ = ((denX Φ a δ s).go fun x s => (asB x s).go fun k s => (Out.ok (D.bl (!k)) s : Out D)) from rfl).trans ?_
  unfold Out.bool
  cases denX Φ a δ s <;> rfl
@[simp] theorem r_ite : denX Φ (.ite c a b) δ s = (denX Φ c δ s).bool.go fun k s => if k = true then denX Φ a δ s else denX Φ b δ s := by
  refine (show _ = ((denX Φ c δ s).go fun x s => (asB x s).go fun k s => (if k = true then denX Φ a δ else denX Φ b δ : M _) s) from rfl).trans ?_
  unfold Out.bool
  cases denX Φ c δ s with
  | ok z s =>
    simp only [go_ok]
    cases asB z s with
    | ok k s => cases k <;> rfl
    | exc _ _ => rfl
    | no => rfl
  | exc _ _ => rfl
  | no => rfl
@[simp] theorem r_tup : denX Φ (.tup l) δ s = (denXs Φ l δ s).go fun ds s => if ds.length ≤ 1000 then .ok (.tup ds) s else .no := by
  refine bind_go.trans (congrArg (Out.go _) (funext fun ds => funext fun s => ?_))
  show (if _ then _ else _ : M _) s = _
  split <;> rfl
@[simp] theorem r_lst : denX Φ (.lst l) δ s = (denXs Φ l δ s).go fun ds s => if ds.length ≤ 1000 then .ok (.lst ds) s else .no := by
  refine bind_go.trans (congrArg (Out.go _) (funext fun ds => funext fun s => ?_))
  show (if _ then _ else _ : M _) s = _
  split <;> rfl
def ixF (x y : D) : M D := fun s => match ixD s x y with
  | some v => .ok v s
  | none => .no
@[simp] theorem r_ix : denX Φ (.ix a b) δ s = (denX Φ a δ s).go fun x s => (denX Φ b δ s).go (ixF x) := by
  rfl
@[simp] theorem r_cut {lo hi : Option X} : denX Φ (.cut a lo hi) δ s = (denX Φ a δ s).go fun x s => (denO Φ lo δ s).go fun l s => (denO Φ hi δ s).go fun h s => M.ofO (cutD x l h) s := by
  rfl
@[simp] theorem r_cutN {lo hi : Option X} : denX Φ (.cutN a lo hi) δ s = (denX Φ a δ s).go fun x s => (denO Φ lo δ s).go fun l s => (denO Φ hi δ s).go fun h s => cutNF x l h s := by
  rfl
@[simp] theorem r_comp {tg : Tg} {kk : ItK} {it ifs : List X} {own : List Nat} : denX Φ (.comp e tg kk it ifs own) δ s = (denXs Φ it δ s).go fun ds s => (M.ofO (itemsOf kk ds) s).go fun items s => (compL (kF Φ tg ifs e own δ) items s).go fun l s => if items.length < line then .ok (.lst l) s else .no := by
  refine (show _ = ((denXs Φ it δ s).go fun ds s => (M.ofO (itemsOf kk ds) s).go fun items s => (compL (kF Φ tg ifs e own δ) items s).go fun l s => (if items.length < line then pure (D.lst l) else M.no : M D) s) from rfl).trans ?_
  congr 1
  funext ds s
  congr 1
  funext items s
  congr 1
  funext l s
  split <;> rfl
def isiF (n : Nat) (t : Ty) (x : D) : M D := fun s => match isD n s t x with
  | some b => .ok (.bl b) s
  | none => .no
@[simp] theorem r_isi {t : Ty} : denX Φ (.isi a t) δ s = (denX Φ a δ s).go (isiF Φ.nc t) := bind_go
@[simp] theorem r_srt : denX Φ (.srt a) δ s = (denX Φ a δ s).go srtF := rfl
@[simp] theorem r_dnew : denX Φ .dnew δ s = .ok (.dct []) s := rfl
@[simp] theorem r_inG {no : Bool} : denX Φ (.inG i no a) δ s = (denX Φ a δ s).go (inGF (Φ.tb i) no) := bind_go
@[simp] theorem r_ixG : denX Φ (.ixG i a) δ s = (denX Φ a δ s).go (ixGF (Φ.tb i)) := bind_go
@[simp] theorem r_mkx : denX Φ (.mkx a) δ s = (denX Φ a δ s).go fun d s => .ok (.obj s.length) (s ++ [d]) := bind_go
@[simp] theorem r_vim : denX Φ (.vim i) δ s = (getV δ i s).go fun d s => if d.imm = true then .ok d s else .no := by
  refine bind_go.trans (congrArg (Out.go _) (funext fun ds => funext fun s => ?_))
  show (if _ then _ else _ : M _) s = _
  split <;> rfl
@[simp] theorem rs_nil : denXs Φ [] δ s = .ok [] s := rfl
@[simp] theorem rs_cons : denXs Φ (a :: l) δ s = (denX Φ a δ s).go fun x s => (denXs Φ l δ s).go fun ds s => .ok (x :: ds) s := by
  rfl
@[simp] theorem and_nil : denAnd Φ [] δ s = .ok true s := rfl
@[simp] theorem and_cons : denAnd Φ (a :: l) δ s = (denX Φ a δ s).bool.go fun k s => if k = true then denAnd Φ l δ s else .ok false s := by
  refine (show _ = ((denX Φ a δ s).go fun x s => (asB x s).go fun k s => (if k = true then denAnd Φ l δ else pure false : M _) s) from rfl).trans ?_
  unfold Out.bool
  cases denX Φ a δ s with
  | ok z s =>
    simp only [go_ok]
    cases asB z s with
    | ok k s => cases k <;> rfl
    | exc _ _ => rfl
    | no => rfl
  | exc _ _ => rfl
  | no => rfl
@[simp] theorem or_nil : denOr Φ [] δ s = .ok false s := rfl
@[simp] theorem or_cons : denOr Φ (a :: l) δ s = (denX Φ a δ s).bool.go fun k s => if k = true then .ok true s else denOr Φ l δ s := by
  refine (show _ = ((denX Φ a δ s).go fun x s => (asB x s).go fun k s => (if k = true then pure true else denOr Φ l δ : M _) s) from rfl).trans ?_
  unfold Out.bool
  cases denX Φ a δ s with
  | ok z s =>
    simp only [go_ok]
    cases asB z s with
    | ok k s => cases k <;> rfl
    | exc _ _ => rfl
    | no => rfl
  | exc _ _ => rfl
  | no => rfl
def intF : D → M (Option Int)
  | .int i => pure (some i)
  | _ => M.no
@[simp] theorem intF_int {i : Int} : intF (.int i) s = .ok (some i) s := rfl
@[simp] theorem o_none : denO Φ none δ s = .ok none s := rfl
@[simp] theorem o_some : denO Φ (some a) δ s = (denX Φ a δ s).go intF := by
  refine bind_go.trans (congrArg (Out.go _) (funext fun x => funext fun s => ?_))
  cases x <;> rfl
/-! statements -/
/-- the next statement -/
def Out.nxt (x : Out Fl) (k : En → M Fl) : Out Fl := x.go fun fl s => match fl with
  | .nx δ => k δ s
  | .bk δ => .ok (.bk δ) s
  | .rt v => .ok (.rt v) s
variable {k' : En → M Fl} {v : D} {t : Tg} {st : S} {sl : List S}
@[simp] theorem nxt_nx : (Out.ok (Fl.nx δ) s).nxt k' = k' δ s := by first | (simp only [Out.go]; done) | (simp only [Out.nxt, Out.go]; done)
@[simp] theorem nxt_bk : (Out.ok (Fl.bk δ) s).nxt k' = .ok (.bk δ) s := by first | (simp only [Out.go]; done) | (simp only [Out.nxt, Out.go]; done)
@[simp] theorem nxt_rt : (Out.ok (Fl.rt v) s).nxt k' = .ok (.rt v) s := by first | (simp only [Out.go]; done) | (simp only [Out.nxt, Out.go]; done)
@[simp] theorem nxt_no : (Out.no : Out Fl).nxt k' = .no := by first | (simp only [Out.go]; done) | (simp only [Out.nxt, Out.go]; done)
@[simp] theorem ss_nil : denSs Φ N [] δ s = .ok (.nx δ) s := rfl
@[simp] theorem ss_cons : denSs Φ N (st :: sl) δ s = (denS Φ N st δ s).nxt (denSs Φ N sl) := by
  refine bind_go.trans (congrArg (Out.go _) (funext fun x => funext fun s => ?_))
  cases x <;> rfl
@[simp] theorem s_asg : denS Φ N (.asg t e) δ s = (denX Φ e δ s).go fun d s => (M.ofO (bindT t d δ) s).go fun δ' s => .ok (.nx δ') s := by
  rfl
@[simp] theorem s_asgI : denS Φ N (.asgI i e) δ s = (denX Φ e δ s).go fun d s => if d.imm = true then (M.ofO (bindT (.nm i) d δ) s).go fun δ' s => .ok (.nx δ') s else .no := by
  refine (show _ = ((denX Φ e δ s).go fun d s => (if d.imm = true then M.ofO (bindT (.nm i) d δ) >>= fun δ' => pure (Fl.nx δ') else M.no : M Fl) s) from rfl).trans ?_
  congr 1
  funext d s
  split <;> rfl
@[simp] theorem s_par {is : List Nat} : denS Φ N (.par is es) δ s = (denXs Φ es δ s).go fun ds s => (M.ofO (setMany is ds δ) s).go fun δ' s => .ok (.nx δ') s := by
  rfl
@[simp] theorem s_setIx : denS Φ N (.setIx i x e) δ s = (denX Φ e δ s).go fun v s => (getV δ i s).go fun o s => (denX Φ x δ s).go fun q s => setIxF i o q v δ s := by
  rfl
@[simp] theorem s_setOb : denS Φ N (.setOb i x e) δ s = (denX Φ e δ s).go fun v s => (getV δ i s).go fun o s => (denX Φ x δ s).go fun q s => setObF o q v δ s := by
  rfl
@[simp] theorem s_ex : denS Φ N (.ex e) δ s = (denX Φ e δ s).go fun _ s => .ok (.nx δ) s := bind_go
@[simp] theorem s_app : denS Φ N (.app i e) δ s = (getV δ i s).go fun o s => (denX Φ e δ s).go fun v s => appF i o v δ s := by
  rfl
@[simp] theorem s_iff {sa sb : List S} : denS Φ N (.iff c sa sb) δ s = (denX Φ c δ s).bool.go fun k s => if k = true then denSs Φ N sa δ s else denSs Φ N sb δ s := by
  refine (show _ = ((denX Φ c δ s).go fun x s => (asB x s).go fun k s => (if k = true then denSs Φ N sa δ else denSs Φ N sb δ : M _) s) from rfl).trans ?_
  unfold Out.bool
  cases denX Φ c δ s with
  | ok z s =>
    simp only [go_ok]
    cases asB z s with
    | ok k s => cases k <;> rfl
    | exc _ _ => rfl
    | no => rfl
  | exc _ _ => rfl
  | no => rfl
@[simp] theorem s_for {kk : ItK} {it : List X} {body : List S} : denS Φ N (.forr t kk it body) δ s = (denXs Φ it δ s).go fun ds s => (M.ofO (itemsOf kk ds) s).go fun items s => forL (fF Φ N t body) items δ s := by
  rfl
@[simp] theorem s_whl {body : List S} : denS Φ N (.whl c body) δ s = whlL (cF Φ c) (bF Φ N body) N δ s := rfl
@[simp] theorem s_ret : denS Φ N (.ret (some e)) δ s = (denX Φ e δ s).go fun d s => .ok (.rt d) s := bind_go
@[simp] theorem s_retN : denS Φ N (.ret none) δ s = .ok (.rt .non) s := rfl
@[simp] theorem s_retO : denS Φ N (.retO i) δ s = (getV δ i s).go fun d s => if d.imm = true then .no else .ok (.rt d) s := by
  refine bind_go.trans (congrArg (Out.go _) (funext fun ds => funext fun s => ?_))
  show (if _ then _ else _ : M _) s = _
  split <;> rfl
@[simp] theorem s_never : denS Φ N .never δ s = .no := rfl
@[simp] theorem s_pass : denS Φ N .pass δ s = .ok (.nx δ) s := rfl
@[simp] theorem s_brk : denS Φ N .brk δ s = .ok (.bk δ) s := rfl
/-! loops -/
variable {items : List D} {g : D → En → M Fl} {h : D → M (Option D)}
@[simp] theorem for_nil : forL g [] δ s = .ok (.nx δ) s := rfl
theorem for_cons : forL g (d :: items) δ s = (g d δ s).go fun fl s => match fl with
    | .nx δ' => forL g items δ' s
    | .bk δ' => .ok (.nx δ') s
    | .rt v => .ok (.rt v) s := by
  refine bind_go.trans (congrArg (Out.go _) (funext fun x => funext fun s => ?_))
  cases x <;> rfl
@[simp] theorem comp_nil : compL h [] s = .ok [] s := rfl
theorem comp_cons : compL h (d :: items) s = (h d s).go fun o s => (compL h items s).go fun l s => .ok (match o with
    | some v => v :: l
    | none => l) s := by
  rfl
theorem whl_step {cc : En → M Bool} {ff : En → M Fl} : whlL cc ff (n + 1) δ s = (cc δ s).go fun k s => if k = true then (ff δ s).go fun fl s => (match fl with
    | .nx δ' => whlL cc ff n δ' s
    | .bk δ' => .ok (.nx δ') s
    | .rt v => .ok (.rt v) s) else .ok (.nx δ) s := by
  refine (show _ = ((cc δ s).go fun k s => (if k = true then ff δ >>= fun fl => (match fl with
    | .nx δ' => whlL cc ff n δ'
    | .bk δ' => pure (.nx δ')
    | .rt v => pure (.rt v)) else pure (Fl.nx δ) : M Fl) s) from rfl).trans ?_
  congr 1
  funext k s
  cases k
  · rfl
  · simp only [if_true]
    refine bind_go.trans (congrArg (Out.go _) (funext fun fl => funext fun s => ?_))
    cases fl <;> rfl
theorem cF_run : cF Φ c δ s = (denX Φ c δ s).bool := bind_go
theorem bF_run : bF Φ N sl δ s = denSs Φ N sl δ s := rfl
theorem fF_run : fF Φ N t sl d δ s = (M.ofO (bindT t d δ) s).go fun δ' s => denSs Φ N sl δ' s := bind_go
theorem kF_run {ifs : List X} {own : List Nat} : kF Φ t ifs e own δ d s = (M.ofO (bindT t d (wipe δ own)) s).go fun δ' s => (denAnd Φ ifs δ' s).go fun k s => if k = true then (denX Φ e δ' s).go fun v s => .ok (some v) s else .ok none s := by
  refine (show _ = ((M.ofO (bindT t d (wipe δ own)) s).go fun δ' s => (denAnd Φ ifs δ' s).go fun k s => (if k = true then denX Φ e δ' >>= fun v => pure (some v) else pure none : M (Option D)) s) from rfl).trans ?_
  congr 1
  funext δ' s
  congr 1
  funext k s
  cases k <;> rfl
/-! a def's body -/
/-- what a body's end is -/
def Out.ret (x : Out Fl) : Out D := x.go fun fl s => match fl with
  | .nx _ => .ok .non s
  | .bk _ => .no
  | .rt d => .ok d s
def Out.retN (x : Out Fl) : Out D := x.go fun fl s => match fl with
  | .nx _ => .no
  | .bk _ => .no
  | .rt d => .ok d s
@[simp] theorem ret_rt : (Out.ok (Fl.rt v) s).ret = .ok v s := by first | (simp only [Out.go]; done) | (simp only [Out.nxt, Out.ret, Out.retN, Out.go]; done)
@[simp] theorem ret_nx : (Out.ok (Fl.nx δ) s).ret = .ok .non s := by first | (simp only [Out.go]; done) | (simp only [Out.nxt, Out.ret, Out.retN, Out.go]; done)
@[simp] theorem ret_no : (Out.no : Out Fl).ret = .no := by first | (simp only [Out.go]; done) | (simp only [Out.nxt, Out.ret, Out.retN, Out.go]; done)
@[simp] theorem retN_rt : (Out.ok (Fl.rt v) s).retN = .ok v s := by first | (simp only [Out.go]; done) | (simp only [Out.nxt, Out.ret, Out.retN, Out.go]; done)
@[simp] theorem retN_no : (Out.no : Out Fl).retN = .no := by first | (simp only [Out.go]; done) | (simp only [Out.nxt, Out.ret, Out.retN, Out.go]; done)
theorem runB_run {F : En → M Fl} {ds : List D} : runB F n ds s = (F (ds.map some ++ List.replicate (n - ds.length) none) s).ret := by
  refine bind_go.trans (congrArg (Out.go _) (funext fun x => funext fun s => ?_))
  cases x <;> rfl
theorem runN_run {F : En → M Fl} {ds : List D} : runN F n ds s = (F (ds.map some ++ List.replicate (n - ds.length) none) s).retN := by
  refine bind_go.trans (congrArg (Out.go _) (funext fun x => funext fun s => ?_))
  cases x <;> rfl
end
end RF
end
section
set_option linter.all false
set_option maxRecDepth 100000
set_option maxHeartbeats 4000000
set_option autoImplicit false
/-! RfRun2: what the operators and builtins give, at values. -/
namespace RF
open PySem (Str)
section
variable {s : Sto} {i j : Int} {x y : Str} {a b : D} {l m : List D} {δ : En}
@[simp] theorem ite_ok {p : Prop} [Decidable p] : (if p then Out.ok true s else Out.ok false s) = Out.ok (decide p) s := by split <;> simp_all
@[simp] theorem b_add : binD .add (.int i) (.int j) s = .ok (.int (i + j)) s := rfl
@[simp] theorem b_sub : binD .sub (.int i) (.int j) s = .ok (.int (i - j)) s := rfl
theorem ite_run {α : Type} {p : Prop} [Decidable p] {m1 m2 : M α} : (if p then m1 else m2) s = if p then m1 s else m2 s := by split <;> rfl
@[simp] theorem b_mul : binD .mul (.int i) (.int j) s = if mulOk i j = true then .ok (.int (i * j)) s else .no := ite_run
@[simp] theorem b_fdiv : binD .fdiv (.int i) (.int j) s = if divOk j = true then .ok (.int (i / j)) s else .no := ite_run
@[simp] theorem b_mod : binD .mod (.int i) (.int j) s = if 0 < j then .ok (.int (i % j)) s else .no := ite_run
@[simp] theorem b_pow : binD .pow (.int i) (.int j) s = if powOk i j = true then .ok (.int (i ^ j.toNat)) s else .no := ite_run
@[simp] theorem b_addS : binD .add (.str x) (.str y) s = if x.length + y.length ≤ line then .ok (.str (x ++ y)) s else .no := ite_run
@[simp] theorem b_addL : binD .add (.lst l) (.lst m) s = if l.length + m.length ≤ line then .ok (.lst (l ++ m)) s else .no := ite_run
@[simp] theorem b_addT : binD .add (.tup l) (.tup m) s = if l.length + m.length ≤ line then .ok (.tup (l ++ m)) s else .no := ite_run
@[simp] theorem n_addL : addNF (.lst l) (.lst m) s = if l.length + m.length ≤ line then .ok (.lst (l ++ m)) s else .no := ite_run
@[simp] theorem c_lt : cmpD .lt (.int i) (.int j) s = .ok (.bl (decide (i < j))) s := rfl
@[simp] theorem c_le : cmpD .le (.int i) (.int j) s = .ok (.bl (decide (i ≤ j))) s := rfl
@[simp] theorem c_gt : cmpD .gt (.int i) (.int j) s = .ok (.bl (decide (j < i))) s := rfl
@[simp] theorem c_ge : cmpD .ge (.int i) (.int j) s = .ok (.bl (decide (j ≤ i))) s := rfl
@[simp] theorem c_eqI : cmpD .eq (.int i) (.int j) s = .ok (.bl (decide (i = j))) s := by
  show Out.ok (D.bl (i == j)) s = _
  rw [show (i == j) = decide (i = j) from rfl]
@[simp] theorem c_neI : cmpD .ne (.int i) (.int j) s = .ok (.bl (!decide (i = j))) s := rfl
@[simp] theorem c_eqS : cmpD .eq (.str x) (.str y) s = .ok (.bl (decide (x = y))) s := rfl
@[simp] theorem c_neS : cmpD .ne (.str x) (.str y) s = .ok (.bl (!decide (x = y))) s := rfl
@[simp] theorem c_isN : cmpD .isN a .non s = .ok (.bl a.isNon) s := by cases a <;> rfl
@[simp] theorem c_notN : cmpD .notN a .non s = .ok (.bl (!a.isNon)) s := by cases a <;> rfl
@[simp] theorem c_eqT : cmpD .eq (.tup l) (.tup m) s = if okEq (.tup l) (.tup m) = true then .ok (.bl (D.eqv (.tup l) (.tup m))) s else .no := ite_run
@[simp] theorem c_neT : cmpD .ne (.tup l) (.tup m) s = if okEq (.tup l) (.tup m) = true then .ok (.bl (!D.eqv (.tup l) (.tup m))) s else .no := ite_run
theorem c_in : cmpD .inn a b s = (match inD s a b with
    | some r => .ok (.bl r) s
    | none => .no) := by cases a <;> cases b <;> rfl
theorem c_nin : cmpD .nin a b s = (match inD s a b with
    | some r => .ok (.bl (!r)) s
    | none => .no) := by cases a <;> cases b <;> rfl
@[simp] theorem isN_int : D.isNon (.int i) = false := rfl
@[simp] theorem isN_tup : D.isNon (.tup l) = false := rfl
@[simp] theorem isN_lst : D.isNon (.lst l) = false := rfl
@[simp] theorem isN_str : D.isNon (.str x) = false := rfl
@[simp] theorem isN_non : D.isNon .non = true := rfl
@[simp] theorem isN_dct {l : List (Ky × D)} : D.isNon (.dct l) = false := rfl
@[simp] theorem f_abs : biD .abs [.int i] s = .ok (.int (if i < 0 then -i else i)) s := rfl
@[simp] theorem f_min : biD .min [.int i, .int j] s = .ok (.int (if j < i then j else i)) s := rfl
@[simp] theorem f_max : biD .max [.int i, .int j] s = .ok (.int (if j > i then j else i)) s := rfl
@[simp] theorem f_int : biD .int [.int i] s = .ok (.int i) s := rfl
@[simp] theorem f_lenT : biD .len [.tup l] s = .ok (.int l.length) s := rfl
@[simp] theorem f_lenL : biD .len [.lst l] s = .ok (.int l.length) s := rfl
@[simp] theorem f_lenF : biD .len [.frz l] s = .ok (.int l.length) s := rfl
@[simp] theorem f_lenD {l : List (Ky × D)} : biD .len [.dct l] s = .ok (.int l.length) s := rfl
@[simp] theorem f_lenS : biD .len [.str x] s = if x.length ≤ line then .ok (.int x.length) s else .no := ite_run
@[simp] theorem f_tupL : biD .tuple [.lst l] s = .ok (.tup l) s := rfl
@[simp] theorem f_tupT : biD .tuple [.tup l] s = .ok (.tup l) s := rfl
@[simp] theorem f_lstT : biD .list [.tup l] s = .ok (.lst l) s := rfl
@[simp] theorem f_lstL : biD .list [.lst l] s = .ok (.lst l) s := rfl
@[simp] theorem f_dctD {l : List (Ky × D)} : biD .dict [.dct l] s = .ok (.dct l) s := rfl
@[simp] theorem f_divmod : biD .divmod [.int i, .int j] s = if 0 < j ∧ j < 1073741824 then .ok (.tup [.int (i / j), .int (i % j)]) s else .no := ite_run
theorem f_all {bs : List Bool} (h : blsOf l = some bs) : biD .all [.lst l] s = .ok (.bl (bs.all id)) s := by
  show (match blsOf l with
    | some bs => (pure (.bl (bs.all id)) : M D)
    | none => M.no) s = _
  rw [h]
  rfl
theorem f_any {bs : List Bool} (h : blsOf l = some bs) : biD .any [.lst l] s = .ok (.bl (bs.any id)) s := by
  show (match blsOf l with
    | some bs => (pure (.bl (bs.any id)) : M D)
    | none => M.no) s = _
  rw [h]
  rfl
theorem ixF_of {v : D} (h : ixD s a b = some v) : ixF a b s = .ok v s := by unfold ixF; rw [h]
@[simp] theorem ixF_T0 : ixF (.tup (a :: l)) (.int 0) s = .ok a s := ixF_of (by simp [ixD, atI, ixOf, show (0 : Int) < (l.length : Int) + 1 by omega])
@[simp] theorem ixF_L0 : ixF (.lst (a :: l)) (.int 0) s = .ok a s := ixF_of (by simp [ixD, atI, ixOf, show (0 : Int) < (l.length : Int) + 1 by omega])
@[simp] theorem ixF_T1 {c : D} : ixF (.tup (a :: c :: l)) (.int 1) s = .ok c s := ixF_of (by simp [ixD, atI, ixOf, show (1 : Int) < (l.length : Int) + 1 + 1 by omega])
@[simp] theorem ixF_L1 {c : D} : ixF (.lst (a :: c :: l)) (.int 1) s = .ok c s := ixF_of (by simp [ixD, atI, ixOf, show (1 : Int) < (l.length : Int) + 1 + 1 by omega])
@[simp] theorem isi_run {n : Nat} {t : Ty} : isiF n t a s = (match isD n s t a with
    | some b => .ok (.bl b) s
    | none => .no) := rfl
@[simp] theorem bT_nm {i : Nat} {d : D} : bindT (.nm i) d δ = if i < δ.length then some (δ.set i (some d)) else none := rfl
@[simp] theorem bT_tup {ts : List Tg} : bindT (.tup ts) (.tup l) δ = bindTs ts l δ := rfl
@[simp] theorem bTs_nil : bindTs [] [] δ = some δ := rfl
@[simp] theorem bTs_cons {t : Tg} {ts : List Tg} {d : D} : bindTs (t :: ts) (d :: l) δ = (bindT t d δ).bind fun δ' => bindTs ts l δ' := rfl
@[simp] theorem sm_nil : setMany [] [] δ = some δ := rfl
@[simp] theorem sm_cons {i : Nat} {is : List Nat} {d : D} : setMany (i :: is) (d :: l) δ = if i < δ.length then setMany is l (δ.set i (some d)) else none := rfl
@[simp] theorem appF_run {i : Nat} {v : D} : appF i (.lst l) v δ s = if l.length < line then .ok (.nx (δ.set i (some (.lst (l ++ [v]))))) s else .no := ite_run
end
end RF
end
section
set_option linter.all false
set_option maxRecDepth 100000
set_option maxHeartbeats 4000000
set_option autoImplicit false
/-! RfFrac: what the functions of fractions compute: fractions are Lean's rationals. -/
namespace RF
open PySem (Str)

/-! ### the greatest common divisor -/
theorem gcd_loop (Φ : Fns) : ∀ (n : Nat) (a b : Nat) (S : Sto), b < n →
    whlL (cF Φ (.cmp .gt (.var 1) (.cst (.int 0)))) (bF Φ fuel [(.par [0, 1] [(.var 1), (.bin .mod (.bi .int [(.var 0)]) (.var 1))])]) n [some (.int a), some (.int b)] S
      = .ok (.nx [some (.int (Nat.gcd a b)), some (.int 0)]) S
  | 0, _, _, _, h => absurd h (Nat.not_lt_zero _)
  | n + 1, a, 0, S, _ => by simp [whl_step, cF_run]
  | n + 1, a, b + 1, S, h => by
    have ih := gcd_loop Φ n (b + 1) (a % (b + 1)) S (Nat.lt_of_lt_of_le (Nat.mod_lt _ (Nat.succ_pos b)) (Nat.le_of_lt_succ h))
    have hp : (0 : Int) < (b : Int) + 1 := by omega
    have e : ((a : Int) % ((b : Int) + 1)) = ((a % (b + 1) : Nat) : Int) := by simp
    have g : Nat.gcd (b + 1) (a % (b + 1)) = Nat.gcd a (b + 1) := by
      rw [Nat.gcd_comm a (b + 1), Nat.gcd_rec (b + 1) a, Nat.gcd_comm]
    rw [g] at ih
    simp [whl_step, cF_run, bF_run, hp]
    simpa using ih
theorem fuel_gt {b : Nat} (h : b < 2 ^ 9000) : b < fuel := Nat.lt_of_lt_of_le h (Nat.pow_le_pow_right (by decide) (by decide))
theorem common_ok (Φ : Fns) (t : Int) (b : Nat) (S : Sto) (h : b < 2 ^ 9000) : g_common Φ [.int t, .int b] S = .ok (.int (Nat.gcd t.natAbs b)) S := by
  have e : (if t < 0 then -t else t) = (t.natAbs : Int) := by split <;> omega
  have := gcd_loop Φ fuel t.natAbs b S (fuel_gt h)
  unfold g_common p_common
  simp [runB_run, e, this]

/-! ### fractions -/
def qd (q : Rat) : D := .tup [.int q.num, .int q.den]
/-- numerator and denominator of at most k bits -/
def sz (k : Nat) (q : Rat) : Prop := q.num.natAbs < 2 ^ k ∧ q.den < 2 ^ k
theorem log_lt {n k : Nat} (h : n < 2 ^ k) (hk : 0 < k) : n.log2 < k := by
  by_cases z : n = 0
  · subst z; simpa using hk
  · exact (Nat.log2_lt z).mpr h
theorem mulOk_of {i j : Int} {k : Nat} (hi : i.natAbs < 2 ^ k) (hj : j.natAbs < 2 ^ k) (h0 : 0 < k) (hk : k ≤ 400000) : mulOk i j = true := by
  unfold mulOk
  have := log_lt hi h0
  have := log_lt hj h0
  simp
  omega
theorem divOk_of {j : Int} (h : 0 < j) (hj : j.natAbs < 2 ^ 9000) : divOk j = true := by
  unfold divOk
  have := log_lt hj (by decide)
  simp [h, this]
def LowestOk (f : List D → M D) : Prop := ∀ (t : Int) (b : Nat) (S : Sto), 0 < b → b < 2 ^ 9000 → f [.int t, .int b] S = .ok (qd (mkRat t b)) S
theorem lowest_ok {Φ : Fns} (h : ∀ (t : Int) (b : Nat) (S : Sto), b < 2 ^ 9000 → Φ.fn 2 [.int t, .int b] S = .ok (.int (Nat.gcd t.natAbs b)) S) : LowestOk (g_lowest Φ) := by
  intro t b S hb hb2
  have hg : 0 < Nat.gcd t.natAbs b := Nat.gcd_pos_of_pos_right _ hb
  have hd : divOk (Nat.gcd t.natAbs b : Nat) = true := divOk_of (by exact_mod_cast hg) (Nat.lt_of_le_of_lt (Nat.gcd_le_right _ hb) hb2)
  have hb0 : b ≠ 0 := by omega
  have e1 : (mkRat t b).num = t / (Nat.gcd t.natAbs b : Nat) := by rw [Rat.num_mkRat, if_neg hb0, Nat.gcd_comm]
  have e2 : (mkRat t b).den = b / Nat.gcd t.natAbs b := by rw [Rat.den_mkRat, if_neg hb0, Nat.gcd_comm]
  unfold g_lowest p_lowest qd
  rw [e1, e2]
  simp [runB_run, h t b S hb2, hd]

section
variable {Φ : Fns} {k : Nat} {a b : Rat} {S : Sto}
theorem sz.pos (h : sz k a) : 0 < k := by
  rcases Nat.eq_zero_or_pos k with z | z
  · subst z
    have := h.2
    have := a.den_pos
    simp at *
    omega
  · exact z
theorem sz.mono {j : Nat} (h : sz k a) (hk : k ≤ j) : sz j a := ⟨Nat.lt_of_lt_of_le h.1 (Nat.pow_le_pow_right (by decide) hk), Nat.lt_of_lt_of_le h.2 (Nat.pow_le_pow_right (by decide) hk)⟩
theorem den_abs (b : Rat) : ((b.den : Int)).natAbs = b.den := Int.natAbs_natCast _
theorem sz.mul1 (ha : sz k a) (hb : sz k b) (hk : k ≤ 400000) : mulOk a.num b.den = true := mulOk_of ha.1 (by rw [den_abs]; exact hb.2) ha.pos hk
theorem sz.mul2 (ha : sz k a) (hb : sz k b) (hk : k ≤ 400000) : mulOk a.den b.den = true := mulOk_of (by rw [den_abs]; exact ha.2) (by rw [den_abs]; exact hb.2) ha.pos hk
theorem sz.mul3 (ha : sz k a) (hb : sz k b) (hk : k ≤ 400000) : mulOk a.num b.num = true := mulOk_of ha.1 hb.1 ha.pos hk
theorem sz.mul4 (ha : sz k a) (hb : sz k b) (hk : k ≤ 400000) : mulOk a.den b.num = true := mulOk_of (by rw [den_abs]; exact ha.2) hb.1 ha.pos hk
theorem sz.den (ha : sz k a) (hb : sz k b) (hk : k ≤ 4000) : a.den * b.den < 2 ^ 9000 := by
  refine Nat.lt_of_lt_of_le (Nat.mul_lt_mul'' ha.2 hb.2) ?_
  rw [← Nat.pow_add]
  exact Nat.pow_le_pow_right (by decide) (by omega)
theorem den_mul (a b : Rat) : (a.den : Int) * b.den = ((a.den * b.den : Nat) : Int) := (Int.natCast_mul _ _).symm
theorem add_ok (h : LowestOk (Φ.fn 3)) (hk : k ≤ 4000) (ha : sz k a) (hb : sz k b) : g_add Φ [qd a, qd b] S = .ok (qd (a + b)) S := by
  have h1 := ha.mul1 hb (by omega)
  have h2 := hb.mul1 ha (by omega)
  have h3 := ha.mul2 hb (by omega)
  have h4 := h (a.num * b.den + b.num * a.den) (a.den * b.den) S (Nat.mul_pos a.den_pos b.den_pos) (ha.den hb hk)
  rw [← den_mul] at h4
  rw [Rat.add_def', ← h4]
  unfold g_add p_add qd
  simp [runB_run, h1, h2, h3]
  cases Φ.fn 3 [.int (a.num * b.den + b.num * a.den), .int (a.den * b.den)] S <;> rfl
theorem less_ok (h : LowestOk (Φ.fn 3)) (hk : k ≤ 4000) (ha : sz k a) (hb : sz k b) : g_less Φ [qd a, qd b] S = .ok (qd (a - b)) S := by
  have h1 := ha.mul1 hb (by omega)
  have h2 := hb.mul1 ha (by omega)
  have h3 := ha.mul2 hb (by omega)
  have h4 := h (a.num * b.den - b.num * a.den) (a.den * b.den) S (Nat.mul_pos a.den_pos b.den_pos) (ha.den hb hk)
  rw [← den_mul] at h4
  rw [Rat.sub_def', ← h4]
  unfold g_less p_less qd
  simp [runB_run, h1, h2, h3]
  cases Φ.fn 3 [.int (a.num * b.den - b.num * a.den), .int (a.den * b.den)] S <;> rfl
theorem times_ok (h : LowestOk (Φ.fn 3)) (hk : k ≤ 4000) (ha : sz k a) (hb : sz k b) : g_times Φ [qd a, qd b] S = .ok (qd (a * b)) S := by
  have h1 := ha.mul3 hb (by omega)
  have h3 := ha.mul2 hb (by omega)
  have h4 := h (a.num * b.num) (a.den * b.den) S (Nat.mul_pos a.den_pos b.den_pos) (ha.den hb hk)
  rw [← den_mul] at h4
  rw [Rat.mul_def', ← h4]
  unfold g_times p_times qd
  simp [runB_run, h1, h3]
  cases Φ.fn 3 [.int (a.num * b.num), .int (a.den * b.den)] S <;> rfl
theorem below_ok (hk : k ≤ 400000) (ha : sz k a) (hb : sz k b) : g_is_below Φ [qd a, qd b] S = .ok (.bl (decide (a < b))) S := by
  have h1 := ha.mul1 hb hk
  have h2 := hb.mul1 ha hk
  have e : decide (a < b) = decide (a.num * b.den < b.num * a.den) := by rw [decide_eq_decide]; exact Rat.lt_iff a b
  rw [e]
  unfold g_is_below p_is_below qd
  simp [runB_run, h1, h2]
def BelowOk (f : List D → M D) : Prop := ∀ (k : Nat) (a b : Rat) (S : Sto), k ≤ 400000 → sz k a → sz k b → f [qd a, qd b] S = .ok (.bl (decide (a < b))) S
def minQ (a b : Rat) : Rat := if b < a then b else a
def maxQ (a b : Rat) : Rat := if a < b then b else a
theorem lesser_ok (h : BelowOk (Φ.fn 9)) (hk : k ≤ 400000) (ha : sz k a) (hb : sz k b) : g_lesser Φ [qd a, qd b] S = .ok (qd (minQ a b)) S := by
  have h1 := h k b a S hk hb ha
  unfold g_lesser p_lesser minQ
  simp [runB_run, h1]
  by_cases z : b < a <;> simp [z]
theorem greater_ok (h : BelowOk (Φ.fn 9)) (hk : k ≤ 400000) (ha : sz k a) (hb : sz k b) : g_greater Φ [qd a, qd b] S = .ok (qd (maxQ a b)) S := by
  have h1 := h k a b S hk ha hb
  unfold g_greater p_greater maxQ
  simp [runB_run, h1]
  by_cases z : a < b <;> simp [z]
theorem sz_min (ha : sz k a) (hb : sz k b) : sz k (minQ a b) := by unfold minQ; split <;> assumption
theorem sz_max (ha : sz k a) (hb : sz k b) : sz k (maxQ a b) := by unfold maxQ; split <;> assumption
theorem half_eq (a : Rat) : a / 2 = mkRat a.num (2 * a.den) := by
  rw [Rat.div_def]
  have e : (2 : Rat)⁻¹ = mkRat 1 2 := by decide +kernel
  rw [e, ← Rat.mkRat_self a, Rat.mkRat_mul_mkRat, Rat.mkRat_self a, Int.mul_one, Nat.mul_comm]
theorem half_ok (h : LowestOk (Φ.fn 3)) (hk : k ≤ 4000) (ha : sz k a) : g_half Φ [qd a] S = .ok (qd (a / 2)) S := by
  have h2 : (2 : Nat) < 2 ^ (k + 2) := by
    have : (2 : Nat) ^ (k + 2) = 2 ^ k * 4 := by rw [Nat.pow_add]
    have : 0 < 2 ^ k := Nat.pow_pos (by decide)
    omega
  have hd : a.den < 2 ^ (k + 2) := Nat.lt_of_lt_of_le ha.2 (Nat.pow_le_pow_right (by decide) (by omega))
  have h1 : mulOk 2 (a.den : Int) = true := mulOk_of (k := k + 2) (by simpa using h2) (by rw [den_abs]; exact hd) (by omega) (by omega)
  have h3 : 2 * a.den < 2 ^ 9000 := by
    have : 2 * a.den < 2 * 2 ^ k := by have := ha.2; omega
    refine Nat.lt_of_lt_of_le this ?_
    rw [Nat.mul_comm, ← Nat.pow_succ]
    exact Nat.pow_le_pow_right (by decide) (by omega)
  have h4 := h a.num (2 * a.den) S (Nat.mul_pos (by decide) a.den_pos) h3
  have e : ((2 * a.den : Nat) : Int) = 2 * (a.den : Int) := by simp
  rw [e] at h4
  rw [half_eq, ← h4]
  unfold g_half p_half qd
  simp [runB_run, h1]
  cases Φ.fn 3 [.int a.num, .int (2 * a.den)] S <;> rfl
def LesserOk (m : Rat → Rat → Rat) (f : List D → M D) : Prop := ∀ (k : Nat) (a b : Rat) (S : Sto), k ≤ 400000 → sz k a → sz k b → f [qd a, qd b] S = .ok (qd (m a b)) S
theorem least_loop {f : Nat} {m : Rat → Rat → Rat} (h : LesserOk m (Φ.fn f)) (hm : ∀ {a b : Rat}, sz k a → sz k b → sz k (m a b)) (hk : k ≤ 400000) {L : Option D} : ∀ (l : List Rat) (q : Rat) (o : Option D), (∀ x ∈ l, sz k x) → sz k q →
    ∃ o', forL (fF Φ fuel (.nm 2) [(.asg (.nm 1) (.call f [(.var 1), (.var 2)]))]) (l.map qd) [L, some (qd q), o] S = .ok (.nx [L, some (qd (l.foldl m q)), o']) S
  | [], q, o, _, _ => ⟨o, rfl⟩
  | x :: l, q, o, hl, hq => by
    have hx := hl x (by simp)
    obtain ⟨o', ih⟩ := least_loop h hm hk l (m q x) (some (qd x)) (fun y hy => hl y (List.mem_cons_of_mem _ hy)) (hm hq hx)
    refine ⟨o', ?_⟩
    have h1 := h k q x S hk hq hx
    rw [List.map_cons, for_cons]
    simp [fF_run, h1]
    exact ih
theorem cutL_tail {α : Type} (x : α) (l : List α) : cutL (x :: l) (some 1) none = l := by
  simp [cutL, cutIx]
theorem least_ok (h : LesserOk minQ (Φ.fn 10)) (hk : k ≤ 400000) {q : Rat} {l : List Rat} (hl : ∀ x ∈ q :: l, sz k x) : g_least Φ [.lst ((q :: l).map qd)] S = .ok (qd (l.foldl minQ q)) S := by
  obtain ⟨o', e⟩ := least_loop (S := S) (L := some (.lst ((q :: l).map qd))) h (fun a b => sz_min a b) hk l q none (fun y hy => hl y (List.mem_cons_of_mem _ hy)) (hl q (by simp))
  unfold g_least p_least
  simp only [List.map_cons] at e ⊢
  simp [runB_run, cutD, cutL_tail, itemsOf, e]
theorem greatest_ok (h : LesserOk maxQ (Φ.fn 11)) (hk : k ≤ 400000) {q : Rat} {l : List Rat} (hl : ∀ x ∈ q :: l, sz k x) : g_greatest Φ [.lst ((q :: l).map qd)] S = .ok (qd (l.foldl maxQ q)) S := by
  obtain ⟨o', e⟩ := least_loop (S := S) (L := some (.lst ((q :: l).map qd))) h (fun a b => sz_max a b) hk l q none (fun y hy => hl y (List.mem_cons_of_mem _ hy)) (hl q (by simp))
  unfold g_greatest p_greatest
  simp only [List.map_cons] at e ⊢
  simp [runB_run, cutD, cutL_tail, itemsOf, e]
end
end RF
end
section
set_option linter.all false
set_option maxRecDepth 100000
set_option maxHeartbeats 4000000
set_option autoImplicit false
/-! RfFrac2: what is a fraction, a share. -/
namespace RF
open PySem (Str)
section
variable {Φ : Fns} {k : Nat} {a b q : Rat} {S : Sto} {v d : D}
/-- neither shared nor an instance -/
def D.own : D → Bool
  | .obj _ | .ins _ _ => false
  | _ => true
def optD : Option Int → D
  | none => .non
  | some i => .int i
def isBetween (v : D) (lo hi : Option Int) : Bool := match v with
  | .int i => (match lo with | none => true | some l => decide (l ≤ i)) && (match hi with | none => true | some h => decide (i ≤ h))
  | _ => false
theorem between_ok (hv : v.own = true) (lo hi : Option Int) : g_is_between Φ [v, optD lo, optD hi] S = .ok (.bl (isBetween v lo hi)) S := by
  unfold g_is_between p_is_between
  cases v <;> first | (simp [runB_run, isD, clsIn, isTy, isBetween]; done) | (simp [D.own] at hv; done) | skip
  rename_i i
  rcases lo with _ | l <;> rcases hi with _ | h <;> simp [runB_run, isD, clsIn, isTy, isBetween, optD]
  by_cases z : l ≤ i <;> simp [z]
def BetweenOk (f : List D → M D) : Prop := ∀ (v : D) (lo hi : Option Int) (S : Sto), v.own = true → f [v, optD lo, optD hi] S = .ok (.bl (isBetween v lo hi)) S
def isFrac : D → Bool
  | .tup [.int n, .int d] => decide (1 ≤ d) && decide (Nat.gcd n.natAbs d.natAbs = 1)
  | _ => false
/-- what may be asked -/
def fracPre : D → Prop
  | .tup [a, .int d] => a.own = true ∧ d.natAbs < 2 ^ 9000
  | .tup [a, b] => a.own = true ∧ b.own = true
  | .obj _ | .ins _ _ => False
  | _ => True
def CommonOk (f : List D → M D) : Prop := ∀ (t : Int) (b : Nat) (S : Sto), b < 2 ^ 9000 → f [.int t, .int b] S = .ok (.int (Nat.gcd t.natAbs b)) S
theorem isFrac_qd (q : Rat) : isFrac (qd q) = true := by
  unfold isFrac qd
  have h1 : (1 : Int) ≤ q.den := by have := q.den_pos; omega
  have h2 : Nat.gcd q.num.natAbs q.den = 1 := q.reduced
  simp [h1, h2]
theorem not_frac (hb : BetweenOk (Φ.fn 0)) (h : fracPre d) (hn : ∀ n m, d ≠ .tup [.int n, .int m]) : g_is_fraction Φ [d] S = .ok (.bl (isFrac d)) S := by
  unfold g_is_fraction p_is_fraction
  cases d with
  | tup l =>
    match l, h, hn with
    | [x, y], h, hn =>
      have h' : x.own = true ∧ y.own = true := by cases y <;> first | exact ⟨h.1, rfl⟩ | exact h
      have e1 := hb x none none S h'.1
      have e2 := hb y (some 1) none S h'.2
      simp only [optD] at e1 e2
      simp [runB_run, isD, clsIn, isTy, e1, e2]
      cases x <;> cases y <;> first | exact absurd rfl (hn _ _) | simp [isBetween, isFrac]
    | [], _, _ => simp [runB_run, isD, clsIn, isTy, isFrac]
    | [_], _, _ => simp [runB_run, isD, clsIn, isTy, isFrac]
    | _ :: _ :: _ :: l, _, _ =>
      have : ¬ ((l.length : Int) + 1 + 1 + 1 = 2) := by omega
      simp [runB_run, isD, clsIn, isTy, isFrac, this]
  | obj _ => exact h.elim
  | ins _ _ => exact h.elim
  | _ => simp [runB_run, isD, clsIn, isTy, isFrac]
theorem fraction_ok (hb : BetweenOk (Φ.fn 0)) (hc : CommonOk (Φ.fn 2)) (h : fracPre d) : g_is_fraction Φ [d] S = .ok (.bl (isFrac d)) S := by
  by_cases hn : ∃ n m, d = .tup [.int n, .int m]
  · obtain ⟨n, m, rfl⟩ := hn
    have e1 := hb (.int n) none none S rfl
    have e2 := hb (.int m) (some 1) none S rfl
    simp only [optD] at e1 e2
    unfold g_is_fraction p_is_fraction
    by_cases hm : 1 ≤ m
    · have e3 := hc n m.toNat S (by have := h.2; omega)
      have e4 : ((m.toNat : Nat) : Int) = m := by omega
      rw [e4] at e3
      have e5 : m.toNat = m.natAbs := by omega
      simp [runB_run, isD, clsIn, isTy, e1, e2, isBetween, hm, e3, isFrac, e5]
      omega
    · simp [runB_run, isD, clsIn, isTy, e1, e2, isBetween, hm, isFrac]
  · exact not_frac hb h fun n m e => hn ⟨n, m, e⟩
/-- a fraction in a range -/
def isWithin (d : D) (lo hi : Rat) : Bool := match d with
  | .tup [.int n, .int m] => isFrac d && (decide (lo ≤ mkRat n m.natAbs) && decide (mkRat n m.natAbs ≤ hi))
  | _ => false
def FractionOk (f : List D → M D) : Prop := ∀ (d : D) (S : Sto), fracPre d → f [d] S = .ok (.bl (isFrac d)) S
/-- a fraction is a rational's numerator and denominator -/
theorem isFrac_eq (h : isFrac d = true) : ∃ q : Rat, d = qd q := by
  unfold isFrac at h
  split at h
  · rename_i n m
    simp only [Bool.and_eq_true, decide_eq_true_eq] at h
    have hm : m.natAbs ≠ 0 := by omega
    refine ⟨⟨n, m.natAbs, hm, h.2⟩, ?_⟩
    unfold qd
    have e : ((m.natAbs : Nat) : Int) = m := by omega
    rw [e]
  · cases h
theorem within_qd (hf : FractionOk (Φ.fn 4)) (hb : BelowOk (Φ.fn 9)) (hk : k ≤ 9000) {lo hi : Rat} (hq : sz k q) (hl : sz k lo) (hh : sz k hi) : g_is_within Φ [qd q, qd lo, qd hi] S = .ok (.bl (decide (lo ≤ q) && decide (q ≤ hi))) S := by
  have hden : ((q.den : Int)).natAbs < 2 ^ 9000 := by rw [den_abs]; exact Nat.lt_of_lt_of_le hq.2 (Nat.pow_le_pow_right (by decide) hk)
  have e1 := hf (qd q) S ⟨rfl, hden⟩
  rw [isFrac_qd] at e1
  have e2 := hb k q lo S (by omega) hq hl
  have e3 := hb k hi q S (by omega) hh hq
  unfold g_is_within p_is_within
  simp [runB_run, e1, e2]
  by_cases z : q < lo
  · have z2 : ¬ lo ≤ q := Rat.not_le.mpr z
    simp [z, z2]
  · have z2 : lo ≤ q := Rat.not_lt.mp z
    simp [z, z2, e3]
    by_cases y : hi < q
    · have : ¬ q ≤ hi := Rat.not_le.mpr y
      simp [y, this]
    · have : q ≤ hi := Rat.not_lt.mp y
      simp [y, this]
theorem within_no (hf : FractionOk (Φ.fn 4)) {x y : D} (h : fracPre d) (hn : isFrac d = false) : g_is_within Φ [d, x, y] S = .ok (.bl false) S := by
  have e1 := hf d S h
  rw [hn] at e1
  unfold g_is_within p_is_within
  simp [runB_run, e1]
theorem qd_zero : qd 0 = .tup [.int 0, .int 1] := rfl
theorem qd_one : qd 1 = .tup [.int 1, .int 1] := rfl
theorem sz_zero (h : 0 < k) : sz k 0 := by
  have : 1 < 2 ^ k := Nat.one_lt_two_pow (by omega)
  exact ⟨Nat.pow_pos (by decide), this⟩
theorem sz_one (h : 0 < k) : sz k 1 := by
  have : 1 < 2 ^ k := Nat.one_lt_two_pow (by omega)
  exact ⟨this, this⟩
def WithinOk (f : List D → M D) : Prop := (∀ (k : Nat) (q lo hi : Rat) (S : Sto), k ≤ 9000 → sz k q → sz k lo → sz k hi → f [qd q, qd lo, qd hi] S = .ok (.bl (decide (lo ≤ q) && decide (q ≤ hi))) S) ∧
  ∀ (d x y : D) (S : Sto), fracPre d → isFrac d = false → f [d, x, y] S = .ok (.bl false) S
theorem share_qd (h : WithinOk (Φ.fn 15)) (h0 : Φ.gl 0 = qd 0) (h1 : Φ.gl 1 = qd 1) (hk : k ≤ 9000) (hq : sz k q) : g_is_share Φ [qd q] S = .ok (.bl (decide (0 ≤ q) && decide (q ≤ 1))) S := by
  have e := h.1 k q 0 1 S hk hq (sz_zero hq.pos) (sz_one hq.pos)
  unfold g_is_share p_is_share
  simp [runB_run, h0, h1, e]
theorem share_no (h : WithinOk (Φ.fn 15)) (hp : fracPre d) (hn : isFrac d = false) : g_is_share Φ [d] S = .ok (.bl false) S := by
  have e := h.2 d (Φ.gl 0) (Φ.gl 1) S hp hn
  unfold g_is_share p_is_share
  simp [runB_run, e]
end
end RF
end
section
set_option linter.all false
set_option maxRecDepth 100000
set_option maxHeartbeats 4000000
set_option autoImplicit false
/-! RfWeb: rows of webs. A place is a letter's sign (a number); what stands at it is a rational or arrows. -/
namespace RF
open PySem (Str)
inductive What where
  | num (q : Rat) | arr (l : List Nat)
  deriving Inhabited
abbrev Rows := List (Nat × What)
def pd (c : Nat) : D := .str (sgn c)
def What.d : What → D
  | .num q => qd q
  | .arr l => .tup (l.map pd)
def rowD (p : Nat × What) : D := .tup [pd p.1, p.2.d]
def rowsD (r : Rows) : D := .tup (r.map rowD)
def isLet (c : Nat) : Bool := decide (97 ≤ c) && decide (c ≤ 122)
def LETTERS : Str := "abcdefghijklmnopqrstuvwxyz"
section
variable {Φ : Fns} {k c e : Nat} {a b q : Rat} {S : Sto} {d : D} {l m : List Nat} {r : Rows}
theorem sgn_list (c : Nat) : (sgn c).cps.toList = [c] := rfl
theorem sgn_len (c : Nat) : (sgn c).length = 1 := rfl
theorem sgn_inj : sgn c = sgn e ↔ c = e := by
  constructor
  · intro h
    have := congrArg (fun s : Str => s.cps.toList) h
    simpa [sgn_list] using this
  · exact fun h => by rw [h]
theorem letters_mem : c ∈ LETTERS.cps.toList ↔ isLet c = true := by
  have h : LETTERS.cps.toList = (List.range 26).map (· + 97) := by decide +kernel
  rw [h]
  simp only [List.mem_map, List.mem_range, isLet, Bool.and_eq_true, decide_eq_true_eq]
  constructor
  · rintro ⟨x, hx, rfl⟩; omega
  · rintro ⟨h1, h2⟩; exact ⟨c - 97, by omega, by omega⟩
theorem c_ltP : cmpD .lt (pd c) (pd e) S = .ok (.bl (decide (c < e))) S := by
  have h : ([c] < [e]) ↔ c < e := by
    show List.Lex (· < ·) [c] [e] ↔ _
    constructor
    · intro h
      cases h with
      | rel h => exact h
      | cons h => cases h
    · exact fun h => .rel h
  show Out.ok (D.bl (decide ((sgn c).cps.toList < (sgn e).cps.toList))) S = _
  congr 2
  rw [decide_eq_decide]
  exact h
theorem c_eqP : cmpD .eq (pd c) (pd e) S = .ok (.bl (decide (c = e))) S := by
  show Out.ok (D.bl (decide (sgn c = sgn e))) S = _
  congr 2
  rw [decide_eq_decide]
  exact sgn_inj
/-- a place in a list of places -/
theorem flat_map (l : List Nat) : (l.map pd).all D.flat = true := by
  rw [List.all_eq_true]
  intro d hd
  obtain ⟨x, _, rfl⟩ := List.mem_map.mp hd
  rfl
theorem any_pd (l : List Nat) : ((l.map pd).any fun y => D.eqv y (pd c)) = decide (c ∈ l) := by
  induction l with
  | nil => simp
  | cons x l ih =>
    rw [List.map_cons, List.any_cons, ih]
    have : D.eqv (pd x) (pd c) = decide (x = c) := by
      show (sgn x == sgn c) = _
      by_cases z : x = c
      · subst z; simp
      · have : sgn x ≠ sgn c := fun y => z (sgn_inj.mp y)
        simp [z, this]
    rw [this]
    by_cases z : x = c
    · subst z; simp
    · have : c ≠ x := fun y => z y.symm
      simp [z, this]
theorem inD_L : inD S (pd c) (.lst (l.map pd)) = some (decide (c ∈ l)) := by
  show (if (D.flat (pd c) && (l.map pd).all D.flat) = true then some _ else none) = _
  rw [flat_map, any_pd]
  rfl
theorem inD_T : inD S (pd c) (.tup (l.map pd)) = some (decide (c ∈ l)) := by
  show (if (D.flat (pd c) && (l.map pd).all D.flat) = true then some _ else none) = _
  rw [flat_map, any_pd]
  rfl
theorem c_inL : cmpD .inn (pd c) (.lst (l.map pd)) S = .ok (.bl (decide (c ∈ l))) S := by rw [c_in, inD_L]
theorem c_ninL : cmpD .nin (pd c) (.lst (l.map pd)) S = .ok (.bl (!decide (c ∈ l))) S := by rw [c_nin, inD_L]
theorem c_inT : cmpD .inn (pd c) (.tup (l.map pd)) S = .ok (.bl (decide (c ∈ l))) S := by rw [c_in, inD_T]
theorem c_ninT : cmpD .nin (pd c) (.tup (l.map pd)) S = .ok (.bl (!decide (c ∈ l))) S := by rw [c_nin, inD_T]
theorem isi_pd {n : Nat} {t : Ty} : isD n S t (pd c) = some (isTy t (pd c)) := rfl
/-! ### is_letter, is_end -/
theorem letter_ok (h : Φ.gl 7 = .str LETTERS) : g_is_letter Φ [pd c] S = .ok (.bl (isLet c)) S := by
  have e1 : inD S (pd c) (.str LETTERS) = some (decide (c ∈ LETTERS.cps.toList)) := rfl
  have e2 : decide (c ∈ LETTERS.cps.toList) = isLet c := by
    cases z : isLet c with
    | true => exact decide_eq_true (letters_mem.mpr z)
    | false => exact decide_eq_false fun y => by rw [letters_mem.mp y] at z; cases z
  have e3 : cmpD .inn (pd c) (.str LETTERS) S = .ok (.bl (isLet c)) S := by rw [c_in, e1, e2]
  have e4 : biD .len [pd c] S = .ok (.int 1) S := by
    show biD .len [.str (sgn c)] S = _
    rw [f_lenS, sgn_len]
    rfl
  have e5 : isTy .str (pd c) = true := rfl
  have e6 : isD Φ.nc S .str (pd c) = some true := rfl
  unfold g_is_letter p_is_letter
  simp [runB_run, h, e3, e4, e6]
theorem end_num : g_is_end Φ [(What.num q).d] S = .ok (.bl true) S := by
  unfold g_is_end p_is_end What.d qd
  simp [runB_run, isD, clsIn, isTy]
theorem end_arr : g_is_end Φ [(What.arr (c :: l)).d] S = .ok (.bl false) S := by
  have e6 : isD Φ.nc S .int (pd c) = some false := rfl
  unfold g_is_end p_is_end What.d
  simp [runB_run, e6]
/-! ### comprehensions over mapped items -/
theorem comp_map {α : Type} {g : α → D} {h : D → M (Option D)} {f : α → Option D} : ∀ {items : List α}, (∀ x ∈ items, h (g x) S = .ok (f x) S) → compL h (items.map g) S = .ok (items.filterMap f) S
  | [], _ => rfl
  | x :: items, hx => by
    have h1 := hx x (by simp)
    have h2 := comp_map (items := items) fun y hy => hx y (List.mem_cons_of_mem _ hy)
    rw [List.map_cons, comp_cons, h1, go_ok, h2, go_ok, List.filterMap_cons]
    cases f x <;> rfl
theorem comp_map1 {α : Type} {g : α → D} {h : D → M (Option D)} {f : α → D} {items : List α} (hx : ∀ x ∈ items, h (g x) S = .ok (some (f x)) S) : compL h (items.map g) S = .ok (items.map f) S := by
  rw [comp_map (f := fun x => some (f x)) hx, List.filterMap_eq_map']
theorem bls_map {α : Type} {p : α → Bool} : ∀ {l : List α}, blsOf (l.map fun x => D.bl (p x)) = some (l.map p)
  | [] => rfl
  | x :: l => by
    show (blsOf (l.map fun x => D.bl (p x))).map _ = _
    rw [bls_map]
    rfl
theorem range_map (n : Nat) : rangeL n 0 = (List.range n).map fun i : Nat => D.int (i : Int) := by
  have gen : ∀ (n : Nat) (lo : Nat), rangeL n lo = (List.range n).map fun i : Nat => D.int ((lo + i : Nat) : Int) := by
    intro n
    induction n with
    | zero => intro lo; rfl
    | succ n ih =>
      intro lo
      have := ih (lo + 1)
      rw [List.range_succ_eq_map]
      simp only [rangeL, List.map_cons, List.map_map, Nat.add_zero, List.cons.injEq, true_and]
      rw [show ((lo : Int) + 1) = ((lo + 1 : Nat) : Int) by simp, this]
      refine List.map_congr_left fun i _ => ?_
      simp only [Function.comp]
      congr 2
      omega
  have := gen n 0
  simpa using this
theorem atI_map {α β : Type} (f : α → β) (l : List α) (i : Nat) {x : α} (h : l[i]? = some x) : atI (l.map f) (i : Int) = some (f x) := by
  have hi : i < l.length := (List.getElem?_eq_some_iff.mp h).1
  unfold atI ixOf
  simp [hi]
  rw [(List.getElem?_eq_some_iff.mp h).2]
theorem ixF_T {l : List Nat} {i : Nat} {x : Nat} (h : l[i]? = some x) : ixF (.tup (l.map pd)) (.int i) S = .ok (pd x) S := ixF_of (atI_map pd l i h)
theorem ixF_L {l : List Nat} {i : Nat} {x : Nat} (h : l[i]? = some x) : ixF (.lst (l.map pd)) (.int i) S = .ok (pd x) S := ixF_of (atI_map pd l i h)
theorem items_range1 {n : Nat} (h : n ≤ 1000000) : itemsOf .range1 [.int ((n : Int) - 1)] = some ((List.range (n - 1)).map fun i : Nat => D.int (i : Int)) := by
  have hs : small ((n : Int) - 1) = true := by unfold small; simp; omega
  have e : ((n : Int) - 1).toNat = n - 1 := by omega
  show (if small ((n : Int) - 1) = true then some (rangeL ((n : Int) - 1).toNat 0) else none) = _
  rw [if_pos hs, e, range_map]
/-- each is greater than the one ahead of it -/
def asc (l : List Nat) : Bool := (List.range (l.length - 1)).all fun i => decide (l.getD i 0 < l.getD (i + 1) 0)
theorem asc_core {v : D} (hlen : biD .len [v] S = .ok (.int l.length) S) (hix : ∀ (i x : Nat), l[i]? = some x → ixF v (.int i) S = .ok (pd x) S) (hl : l.length ≤ 1000) : g_is_ascending Φ [v] S = .ok (.bl (asc l)) S := by
  have hc : ∀ i ∈ List.range (l.length - 1), kF Φ (.nm 1) [] (.cmp .lt (.ix (.var 0) (.var 1)) (.ix (.var 0) (.bin .add (.var 1) (.cst (.int 1))))) [1] [some v, none] (D.int (i : Int)) S = .ok (some (.bl (decide (l.getD i 0 < l.getD (i + 1) 0)))) S := by
    intro i hi
    have hi' : i + 1 < l.length := by have := List.mem_range.mp hi; omega
    have e1 := hix i l[i] (by simp)
    have e2 := hix (i + 1) l[i + 1] (by simp)
    have e3 : ((i : Int) + 1) = ((i + 1 : Nat) : Int) := by simp
    rw [← e3] at e2
    have g1 : l.getD i 0 = l[i] := by simp [List.getD, show i < l.length by omega]
    have g2 : l.getD (i + 1) 0 = l[i + 1] := by simp [List.getD, hi']
    rw [g1, g2]
    simp [kF_run, wipe, e1, e2, c_ltP]
  have h1 := comp_map1 hc
  have h2 : (List.range (l.length - 1)).length < line := by simp [line]; omega
  unfold g_is_ascending p_is_ascending
  simp only [runB_run, ss_cons, s_ret, r_bi, rs_cons, rs_nil, r_comp, r_bin, r_var, r_cst, getV_run]
  simp [hlen, items_range1 (n := l.length) (by omega), h1, f_all bls_map, show l.length - 1 < line by simp [line]; omega]
  rfl
theorem asc_L (hl : l.length ≤ 1000) : g_is_ascending Φ [.lst (l.map pd)] S = .ok (.bl (asc l)) S := asc_core (by simp) (fun i x h => ixF_L h) hl
theorem asc_T (hl : l.length ≤ 1000) : g_is_ascending Φ [.tup (l.map pd)] S = .ok (.bl (asc l)) S := asc_core (by simp) (fun i x h => ixF_T h) hl
/-! ### parts, arrows, pairs -/
def ShareOk (f : List D → M D) : Prop := (∀ (k : Nat) (q : Rat) (S : Sto), k ≤ 9000 → sz k q → f [qd q] S = .ok (.bl (decide (0 ≤ q) && decide (q ≤ 1))) S) ∧ ∀ (d : D) (S : Sto), fracPre d → isFrac d = false → f [d] S = .ok (.bl false) S
def MB : Nat := 10 ^ 12
theorem part_qd (h : ShareOk (Φ.fn 16)) (h4 : Φ.gl 4 = .int MB) (hk : k ≤ 9000) (hq : sz k q) : g_is_part Φ [qd q] S = .ok (.bl ((decide (0 ≤ q) && decide (q ≤ 1)) && decide (q.den ≤ MB))) S := by
  have e := h.1 k q S hk hq
  have e2 : ixF (qd q) (.int 1) S = .ok (.int q.den) S := ixF_T1
  unfold g_is_part p_is_part
  simp [runB_run, e, e2, h4]
  by_cases z : 0 ≤ q ∧ q ≤ 1
  · simp [z.1, z.2]
  · have : ¬ (0 ≤ q ∧ q ≤ 1) := z
    simp [this]
theorem arr_noFrac (l : List Nat) : fracPre (What.arr l).d ∧ isFrac (What.arr l).d = false := by
  unfold What.d
  match l with
  | [] => exact ⟨trivial, rfl⟩
  | [_] => exact ⟨trivial, rfl⟩
  | [a, b] => exact ⟨⟨rfl, rfl⟩, rfl⟩
  | _ :: _ :: _ :: _ => exact ⟨trivial, rfl⟩
theorem part_arr (h : ShareOk (Φ.fn 16)) : g_is_part Φ [(What.arr l).d] S = .ok (.bl false) S := by
  have e := h.2 _ S (arr_noFrac l).1 (arr_noFrac l).2
  unfold g_is_part p_is_part
  simp [runB_run, e]
def LetterOk (f : List D → M D) : Prop := ∀ (c : Nat) (S : Sto), f [pd c] S = .ok (.bl (isLet c)) S
def AscOk (f : List D → M D) : Prop := (∀ (l : List Nat) (S : Sto), l.length ≤ 1000 → f [.lst (l.map pd)] S = .ok (.bl (asc l)) S) ∧ ∀ (l : List Nat) (S : Sto), l.length ≤ 1000 → f [.tup (l.map pd)] S = .ok (.bl (asc l)) S
theorem arrows_ok (hL : LetterOk (Φ.fn 17)) (hA : AscOk (Φ.fn 19)) (hl : l.length ≤ 1000) (h0 : l ≠ []) : g_are_arrows Φ [(What.arr l).d] S = .ok (.bl (l.all isLet && asc l)) S := by
  have e1 := hA.2 l S hl
  have hc : ∀ c ∈ l, kF Φ (.nm 1) [] (.call 17 [(.var 1)]) [1] [some (.tup (l.map pd)), none] (pd c) S = .ok (some (.bl (isLet c))) S := by
    intro c _
    simp [kF_run, wipe, hL c S]
  have h1 := comp_map1 hc
  have h2 : l.length < line := by simp [line]; omega
  have h3 : ¬ ((l.length : Int) = 0) := by
    have : l.length ≠ 0 := fun z => h0 (List.length_eq_zero_iff.mp z)
    omega
  have h4 : itemsOf .seq [.tup (l.map pd)] = some (l.map pd) := rfl
  unfold g_are_arrows p_are_arrows What.d
  simp [runB_run, isD, clsIn, isTy, h4, h1, h2, h3, h0, f_all bls_map, e1]
  cases z : l.all isLet with
  | true =>
    have : ¬ ∃ x, x ∈ l ∧ isLet x = false := fun ⟨x, hx, y⟩ => by rw [List.all_eq_true.mp z x hx] at y; cases y
    simp [this, e1]
  | false =>
    have : ∃ x, x ∈ l ∧ isLet x = false := by
      rw [List.all_eq_false] at z
      obtain ⟨x, hx, y⟩ := z
      exact ⟨x, hx, by simpa using y⟩
    simp [this]
def whatOk : What → Prop
  | .num q => (0 ≤ q ∧ q ≤ 1) ∧ q.den ≤ MB
  | .arr l => l ≠ [] ∧ l.length ≤ 1000 ∧ l.all isLet = true ∧ asc l = true
theorem sz_unit (h0 : 0 ≤ q) (h1 : q ≤ 1) (hd : q.den ≤ MB) : sz 64 q := by
  have hm : MB < 2 ^ 64 := by decide
  refine ⟨?_, by omega⟩
  have e0 : 0 ≤ q.num := Rat.num_nonneg.mpr h0
  have e1 : q.num ≤ q.den := by
    have := (Rat.le_iff q 1).mp h1
    simpa using this
  omega
def PartOk (f : List D → M D) : Prop := (∀ (k : Nat) (q : Rat) (S : Sto), k ≤ 9000 → sz k q → f [qd q] S = .ok (.bl ((decide (0 ≤ q) && decide (q ≤ 1)) && decide (q.den ≤ MB))) S) ∧ ∀ (l : List Nat) (S : Sto), f [(What.arr l).d] S = .ok (.bl false) S
def ArrowsOk (f : List D → M D) : Prop := ∀ (l : List Nat) (S : Sto), l.length ≤ 1000 → l ≠ [] → f [(What.arr l).d] S = .ok (.bl (l.all isLet && asc l)) S
theorem pair_ok {w : What} (hL : LetterOk (Φ.fn 17)) (hP : PartOk (Φ.fn 18)) (hA : ArrowsOk (Φ.fn 20)) (hc : isLet c = true) (hw : whatOk w) : g_is_pair Φ [rowD (c, w)] S = .ok (.bl true) S := by
  have e1 := hL c S
  rw [hc] at e1
  unfold g_is_pair p_is_pair rowD
  cases w with
  | num q =>
    have e2 := hP.1 64 q S (by decide) (sz_unit hw.1.1 hw.1.2 hw.2)
    simp only [hw.1.1, hw.1.2, hw.2, decide_true, Bool.and_true] at e2
    simp [runB_run, isD, clsIn, isTy, e1, What.d, e2]
  | arr l =>
    have e2 := hP.2 l S
    have e3 := hA l S hw.2.1 hw.1
    rw [hw.2.2.1, hw.2.2.2] at e3
    simp [runB_run, isD, clsIn, isTy, e1, e2, e3]
/-! ### lost_places -/
def EndOk (f : List D → M D) : Prop := (∀ (q : Rat) (S : Sto), f [(What.num q).d] S = .ok (.bl true) S) ∧ ∀ (c : Nat) (l : List Nat) (S : Sto), f [(What.arr (c :: l)).d] S = .ok (.bl false) S
def isNum : What → Bool
  | .num _ => true
  | .arr _ => false
def What.ne : What → Prop
  | .num _ => True
  | .arr l => l ≠ []
theorem end_ok (h : EndOk (Φ.fn 21)) {w : What} (hw : w.ne) (S : Sto) : Φ.fn 21 [w.d] S = .ok (.bl (isNum w)) S := by
  cases w with
  | num q => exact h.1 q S
  | arr l =>
    cases l with
    | nil => exact absurd rfl hw
    | cons c l => exact h.2 c l S
def homes0 (r : Rows) : List Nat := (r.filter fun p => isNum p.2).map (·.1)
/-- a row's turn of a pass -/
def homeStep (home : List Nat) (p : Nat × What) : List Nat := match p.2 with
  | .num _ => home
  | .arr l => if p.1 ∉ home ∧ l.any (fun t => decide (t ∈ home)) = true then home ++ [p.1] else home
def homePass (r : Rows) (home : List Nat) : List Nat := r.foldl homeStep home
def homeAfter (r : Rows) : Nat → List Nat
  | 0 => homes0 r
  | n + 1 => homePass r (homeAfter r n)
theorem homeStep_sub {home : List Nat} {p : Nat × What} {x : Nat} (h : x ∈ home) : x ∈ homeStep home p := by
  unfold homeStep
  split
  · exact h
  · split
    · exact List.mem_append_left _ h
    · exact h
theorem homePass_sub {x : Nat} : ∀ {r : Rows} {home : List Nat}, x ∈ home → x ∈ homePass r home
  | [], _, h => h
  | p :: r, home, h => homePass_sub (r := r) (home := homeStep home p) (homeStep_sub h)
theorem homePass_get {p : Nat × What} {l : List Nat} {t : Nat} (hp2 : p.2 = .arr l) (ht : t ∈ l) : ∀ {r : Rows} {home : List Nat}, p ∈ r → t ∈ home → p.1 ∈ homePass r home
  | [], _, h, _ => nomatch h
  | x :: r, home, h, hh => by
    rcases List.mem_cons.mp h with z | z
    · subst z
      refine homePass_sub (r := r) (home := homeStep home p) ?_
      unfold homeStep
      rw [hp2]
      by_cases y : p.1 ∈ home
      · dsimp only; split
        · exact List.mem_append_left _ y
        · exact y
      · have : l.any (fun t => decide (t ∈ home)) = true := List.any_eq_true.mpr ⟨t, ht, by simpa using hh⟩
        dsimp only
        rw [if_pos ⟨y, this⟩]
        simp
    · exact homePass_get hp2 ht (r := r) (home := homeStep home x) z (homeStep_sub hh)
/-- with a rank that falls along some arrow all come home -/
theorem home_all {r : Rows} (rank : Nat → Nat) (h : ∀ p ∈ r, match p.2 with
    | .num _ => True
    | .arr l => ∃ t ∈ l, ∃ w, (t, w) ∈ r ∧ rank t < rank p.1) : ∀ (n : Nat) (p : Nat × What), p ∈ r → rank p.1 ≤ n → p.1 ∈ homeAfter r n := by
  have h0 : ∀ (n : Nat) (p : Nat × What), p ∈ r → isNum p.2 = true → p.1 ∈ homeAfter r n := by
    intro n
    induction n with
    | zero => exact fun p hp hn => List.mem_map.mpr ⟨p, List.mem_filter.mpr ⟨hp, hn⟩, rfl⟩
    | succ n ih => exact fun p hp hn => homePass_sub (ih p hp hn)
  intro n
  induction n with
  | zero =>
    intro p hp hr
    cases e : p.2 with
    | num q => exact h0 0 p hp (by rw [e]; rfl)
    | arr l =>
      have := h p hp
      rw [e] at this
      obtain ⟨t, _, _, _, hlt⟩ := this
      omega
  | succ n ih =>
    intro p hp hr
    cases e : p.2 with
    | num q => exact h0 (n + 1) p hp (by rw [e]; rfl)
    | arr l =>
      have := h p hp
      rw [e] at this
      obtain ⟨t, ht, w, hw, hlt⟩ := this
      exact homePass_get e ht hp (ih (t, w) hw (by show rank t ≤ n; omega))
theorem any_map_id {α : Type} (p : α → Bool) (l : List α) : (l.map p).any id = l.any p := by rw [List.any_map]; rfl
def bodyL : List RF.S := [(.iff (.and [(.cmp .nin (.var 3) (.var 1)), (.bi .any [(.comp (.cmp .inn (.var 5) (.var 1)) (.nm 5) .seq [(.var 4)] [] [5])])]) [(.app 1 (.var 3))] [])]
theorem homeStep_len (home : List Nat) (p : Nat × What) : (homeStep home p).length ≤ home.length + 1 := by
  unfold homeStep
  split
  · omega
  · split <;> simp
theorem homePass_len : ∀ (r : Rows) (home : List Nat), (homePass r home).length ≤ home.length + r.length
  | [], home => by simp [homePass]
  | p :: r, home => by
    have h1 := homePass_len r (homeStep home p)
    have h2 := homeStep_len home p
    have e : homePass (p :: r) home = homePass r (homeStep home p) := rfl
    rw [e, List.length_cons]
    omega
theorem row_run {R s2 : Option D} (p : Nat × What) (home : List Nat) (o3 o4 o5 : Option D) (hn : isNum p.2 = true → p.1 ∈ home) (hl : ∀ l, p.2 = .arr l → l.length ≤ 1000) (hb : home.length ≤ 1000000) :
    fF Φ fuel (.tup [.nm 3, .nm 4]) bodyL (rowD p) [R, some (.lst (home.map pd)), s2, o3, o4, o5] S = .ok (.nx [R, some (.lst ((homeStep home p).map pd)), s2, some (pd p.1), some p.2.d, o5]) S := by
  obtain ⟨c, w⟩ := p
  have hline : home.length < line := by simp [line]; omega
  unfold bodyL rowD
  cases w with
  | num q =>
    have hm : c ∈ home := hn rfl
    simp [fF_run, c_ninL, hm, homeStep]
  | arr l =>
    have hl' := hl l rfl
    have hll : l.length < line := by simp [line]; omega
    have hc : ∀ t ∈ l, kF Φ (.nm 5) [] (.cmp .inn (.var 5) (.var 1)) [5] [R, some (.lst (home.map pd)), s2, some (pd c), some (What.arr l).d, o5] (pd t) S = .ok (some (.bl (decide (t ∈ home)))) S := by
      intro t _
      simp [kF_run, wipe, c_inL]
    have h1 := comp_map1 hc
    have h4 : itemsOf .seq [(What.arr l).d] = some (l.map pd) := rfl
    by_cases hm : c ∈ home
    · simp [fF_run, c_ninL, hm, homeStep]
    · by_cases ha : l.any (fun t => decide (t ∈ home)) = true
      · simp only [homeStep, hm, ha, not_false_eq_true, and_self, if_true]
        have ha2 : (l.map fun t => decide (t ∈ home)).any id = true := by rw [any_map_id]; exact ha
        simp [fF_run, c_ninL, hm, h4, h1, hll, f_any bls_map, ha2, hline, -List.any_map, -List.any_eq_true]
      · have ha1 : l.any (fun t => decide (t ∈ home)) = false := by simpa using ha
        simp only [homeStep, hm, ha1, not_false_eq_true, true_and, Bool.false_eq_true, if_false]
        have ha2 : (l.map fun t => decide (t ∈ home)).any id = false := by rw [any_map_id]; exact ha1
        simp [fF_run, c_ninL, hm, h4, h1, hll, f_any bls_map, ha2, -List.any_map, -List.any_eq_false, -List.any_eq_true]
theorem pass_run {R s2 : Option D} : ∀ (r : Rows) (home : List Nat) (o3 o4 o5 : Option D), (∀ p ∈ r, isNum p.2 = true → p.1 ∈ home) → (∀ p ∈ r, ∀ l, p.2 = .arr l → l.length ≤ 1000) → home.length + r.length ≤ 1000000 →
    ∃ o3' o4', forL (fF Φ fuel (.tup [.nm 3, .nm 4]) bodyL) (r.map rowD) [R, some (.lst (home.map pd)), s2, o3, o4, o5] S = .ok (.nx [R, some (.lst ((homePass r home).map pd)), s2, o3', o4', o5]) S
  | [], home, o3, o4, o5, _, _, _ => ⟨o3, o4, rfl⟩
  | p :: r, home, o3, o4, o5, hn, hl, hb => by
    have h1 := row_run (Φ := Φ) (S := S) (R := R) (s2 := s2) p home o3 o4 o5 (hn p (by simp)) (hl p (by simp)) (by omega)
    have hlen := homeStep_len home p
    rw [List.length_cons] at hb
    obtain ⟨o3', o4', ih⟩ := pass_run (R := R) (s2 := s2) r (homeStep home p) (some (pd p.1)) (some p.2.d) o5 (fun x hx hxn => homeStep_sub (hn x (List.mem_cons_of_mem _ hx) hxn)) (fun x hx => hl x (List.mem_cons_of_mem _ hx)) (by omega)
    refine ⟨o3', o4', ?_⟩
    rw [List.map_cons, for_cons, h1, go_ok]
    exact ih
def bodyO : List RF.S := [(.forr (.tup [(.nm 3), (.nm 4)]) .seq [(.var 0)] bodyL)]
theorem homeAfter_num (n : Nat) {p : Nat × What} (hp : p ∈ r) (hn : isNum p.2 = true) : p.1 ∈ homeAfter r n := by
  induction n with
  | zero => exact List.mem_map.mpr ⟨p, List.mem_filter.mpr ⟨hp, hn⟩, rfl⟩
  | succ n ih => exact homePass_sub ih
theorem homeAfter_len (n : Nat) : (homeAfter r n).length ≤ (n + 1) * r.length := by
  induction n with
  | zero =>
    have : (homes0 r).length ≤ r.length := by unfold homes0; rw [List.length_map]; exact List.length_filter_le _ _
    simpa [homeAfter] using this
  | succ n ih =>
    have h1 := homePass_len r (homeAfter r n)
    have e : (n + 1 + 1) * r.length = (n + 1) * r.length + r.length := by rw [Nat.add_mul, Nat.one_mul]
    show (homePass r (homeAfter r n)).length ≤ _
    omega
theorem passes_run (hl : ∀ p ∈ r, ∀ l, p.2 = .arr l → l.length ≤ 1000) (hr : r.length ≤ 900) : ∀ (m i : Nat) (o2 o3 o4 o5 : Option D), i + m = r.length →
    ∃ o2' o3' o4', forL (fF Φ fuel (.nm 2) bodyO) ((List.range' i m).map fun j : Nat => D.int (j : Int)) [some (rowsD r), some (.lst ((homeAfter r i).map pd)), o2, o3, o4, o5] S
      = .ok (.nx [some (rowsD r), some (.lst ((homeAfter r r.length).map pd)), o2', o3', o4', o5]) S
  | 0, i, o2, o3, o4, o5, h => by
    have e : i = r.length := by omega
    subst e
    exact ⟨o2, o3, o4, rfl⟩
  | m + 1, i, o2, o3, o4, o5, h => by
    have hlen := homeAfter_len (r := r) i
    have hb : (homeAfter r i).length + r.length ≤ 1000000 := by
      have : (i + 1) * r.length ≤ 901 * 900 := Nat.mul_le_mul (by omega) hr
      omega
    obtain ⟨o3', o4', h1⟩ := pass_run (Φ := Φ) (S := S) (R := some (rowsD r)) (s2 := some (.int i)) r (homeAfter r i) o3 o4 o5 (fun p hp hn => homeAfter_num i hp hn) hl hb
    obtain ⟨a2, a3, a4, ih⟩ := passes_run hl hr m (i + 1) (some (.int i)) o3' o4' o5 (by omega)
    refine ⟨a2, a3, a4, ?_⟩
    have h4 : itemsOf .seq [rowsD r] = some (r.map rowD) := rfl
    rw [List.range'_succ, List.map_cons, for_cons]
    have h5 : fF Φ fuel (.nm 2) bodyO (D.int (i : Int)) [some (rowsD r), some (.lst ((homeAfter r i).map pd)), o2, o3, o4, o5] S = .ok (.nx [some (rowsD r), some (.lst ((homeAfter r (i + 1)).map pd)), some (.int i), o3', o4', o5]) S := by
      unfold bodyO
      simp [fF_run, h4, h1]
      rfl
    rw [h5, go_ok]
    exact ih
/-- the places from which no arrows lead home -/
def lost (r : Rows) : List Nat := (r.filter fun p => !decide (p.1 ∈ homeAfter r r.length)).map (·.1)
theorem items_rangeN {n : Nat} (h : n ≤ 1000000) : itemsOf .range1 [.int (n : Int)] = some ((List.range' 0 n).map fun i : Nat => D.int (i : Int)) := by
  have hs : small (n : Int) = true := by unfold small; simp; omega
  show (if small (n : Int) = true then some (rangeL (n : Int).toNat 0) else none) = _
  rw [if_pos hs, Int.toNat_natCast, range_map, List.range_eq_range']
theorem filter_comp {α : Type} (p : α → Bool) (f : α → D) (l : List α) : l.filterMap (fun x => if p x = true then some (f x) else none) = (l.filter p).map f := by
  induction l with
  | nil => rfl
  | cons x l ih =>
    rw [List.filterMap_cons, List.filter_cons]
    cases p x <;> simp [ih]
end
end RF
end
section
set_option linter.all false
set_option maxRecDepth 100000
set_option maxHeartbeats 4000000
set_option autoImplicit false
/-! RfWeb2: rows that are right. -/
namespace RF
open PySem (Str)
section
variable {Φ : Fns} {k c e : Nat} {a b q : Rat} {S : Sto} {d : D} {l m : List Nat} {r : Rows}
theorem bi_var {R v : D} {B : Bi} {δ : En} (h : biD B [R] S = .ok v S) : denX Φ (.bi B [(.var 0)]) (some R :: δ) S = .ok v S := by
  have e : denXs Φ [.var 0] (some R :: δ) S = .ok [R] S := by simp
  rw [r_bi, e]
  exact go_ok.trans h
theorem for_len {R : D} {n N : Nat} {b : List RF.S} {δ : En} {l : List D} (h : biD .len [R] S = .ok (.int n) S) (h6 : itemsOf .range1 [.int (n : Int)] = some l) : denS Φ N (.forr (.nm 2) .range1 [(.bi .len [(.var 0)])] b) (some R :: δ) S = forL (fF Φ N (.nm 2) b) l (some R :: δ) S := by
  have e := bi_var (Φ := Φ) (δ := δ) h
  have e2 : denXs Φ [.bi .len [.var 0]] (some R :: δ) S = .ok [.int (n : Int)] S := by
    rw [rs_cons, e]
    rfl
  rw [s_for, e2]
  refine go_ok.trans ?_
  rw [h6]
  rfl
theorem len_rows (r : Rows) : biD .len [rowsD r] S = .ok (.int r.length) S := by
  unfold rowsD
  have h : ((r.map rowD).length : Int) = r.length := by rw [List.length_map]
  exact f_lenT.trans (by rw [h])
theorem lost_ok (hE : EndOk (Φ.fn 21)) (hne : ∀ p ∈ r, p.2.ne) (hl : ∀ p ∈ r, ∀ l, p.2 = .arr l → l.length ≤ 1000) (hr : r.length ≤ 900) : g_lost_places Φ [rowsD r] S = .ok (.lst ((lost r).map pd)) S := by
  have hline : r.length < line := by simp [line]; omega
  have h4 : itemsOf .seq [rowsD r] = some (r.map rowD) := rfl
  have hc1 : ∀ p ∈ r, kF Φ (.tup [.nm 3, .nm 4]) [(.call 21 [(.var 4)])] (.var 3) [3, 4] [some (rowsD r), none, none, none, none, none] (rowD p) S = .ok (if isNum p.2 = true then some (pd p.1) else none) S := by
    intro p hp
    have e := end_ok hE (hne p hp) S
    unfold rowD
    simp [kF_run, wipe, e]
    cases isNum p.2 <;> simp
  have h1 := comp_map hc1
  rw [filter_comp (fun p : Nat × What => isNum p.2) (fun p => pd p.1)] at h1
  have e1 : ((r.filter fun p => isNum p.2).map fun p => pd p.1) = (homeAfter r 0).map pd := by
    show _ = (homes0 r).map pd
    unfold homes0
    rw [List.map_map]
    rfl
  rw [e1] at h1
  obtain ⟨o2', o3', o4', h2⟩ := passes_run (Φ := Φ) (S := S) hl hr r.length 0 none none none none (by omega)
  have hc3 : ∀ p ∈ r, kF Φ (.tup [.nm 3, .nm 4]) [(.cmp .nin (.var 3) (.var 1))] (.var 3) [3, 4] [some (rowsD r), some (.lst ((homeAfter r r.length).map pd)), o2', o3', o4', none] (rowD p) S = .ok (if (!decide (p.1 ∈ homeAfter r r.length)) = true then some (pd p.1) else none) S := by
    intro p hp
    unfold rowD
    simp [kF_run, wipe, c_ninL]
    by_cases z : p.1 ∈ homeAfter r r.length <;> simp [z]
  have h3 := comp_map hc3
  rw [filter_comp (fun p : Nat × What => !decide (p.1 ∈ homeAfter r r.length)) (fun p => pd p.1)] at h3
  have e3 : ((r.filter fun p => !decide (p.1 ∈ homeAfter r r.length)).map fun p => pd p.1) = (lost r).map pd := by
    unfold lost
    rw [List.map_map]
    rfl
  rw [e3] at h3
  have hlen : biD .len [rowsD r] S = .ok (.int r.length) S := len_rows r
  have s1 : denS Φ fuel (.asg (.nm 1) (.comp (.var 3) (.tup [(.nm 3), (.nm 4)]) .seq [(.var 0)] [(.call 21 [(.var 4)])] [3, 4])) [some (rowsD r), none, none, none, none, none] S = .ok (.nx [some (rowsD r), some (.lst ((homeAfter r 0).map pd)), none, none, none, none]) S := by
    have h5 : (r.map rowD).length < line := by simpa using hline
    simp only [s_asg, r_comp, rs_cons, rs_nil, r_var, getV_run, List.getElem?_cons_zero, go_ok, h4, ofO_some, h1, if_pos h5]
    simp
  have s2 : denS Φ fuel (.forr (.nm 2) .range1 [(.bi .len [(.var 0)])] bodyO) [some (rowsD r), some (.lst ((homeAfter r 0).map pd)), none, none, none, none] S = .ok (.nx [some (rowsD r), some (.lst ((homeAfter r r.length).map pd)), o2', o3', o4', none]) S := by
    exact (for_len hlen (items_rangeN (Nat.le_trans hr (by decide)))).trans h2
  have s3 : denS Φ fuel (.ret (some (.comp (.var 3) (.tup [(.nm 3), (.nm 4)]) .seq [(.var 0)] [(.cmp .nin (.var 3) (.var 1))] [3, 4]))) [some (rowsD r), some (.lst ((homeAfter r r.length).map pd)), o2', o3', o4', none] S = .ok (.rt (.lst ((lost r).map pd))) S := by
    have h5 : (r.map rowD).length < line := by simpa using hline
    simp only [s_ret, r_comp, rs_cons, rs_nil, r_var, getV_run, List.getElem?_cons_zero, go_ok, h4, ofO_some, h3, if_pos h5]
  have e0 : p_lost_places = [.asg (.nm 1) (.comp (.var 3) (.tup [(.nm 3), (.nm 4)]) .seq [(.var 0)] [(.call 21 [(.var 4)])] [3, 4]), .forr (.nm 2) .range1 [(.bi .len [(.var 0)])] bodyO, .ret (some (.comp (.var 3) (.tup [(.nm 3), (.nm 4)]) .seq [(.var 0)] [(.cmp .nin (.var 3) (.var 1))] [3, 4]))] := rfl
  unfold g_lost_places
  rw [runB_run, e0]
  simp only [List.map_cons, List.map_nil, List.length_cons, List.length_nil, List.cons_append, List.nil_append, show List.replicate (6 - (0 + 1)) (none : Option D) = [none, none, none, none, none] from rfl, ss_cons, s1, nxt_nx, s2, s3, nxt_rt, ret_rt]
/-- rows of a web -/
structure RowsOk (r : Rows) : Prop where
  len : 1 ≤ r.length ∧ r.length ≤ 10
  lets : ∀ p ∈ r, isLet p.1 = true
  what : ∀ p ∈ r, whatOk p.2
  asc : asc (r.map (·.1)) = true
  to : ∀ p ∈ r, ∀ l, p.2 = .arr l → ∀ t ∈ l, t ∈ r.map (·.1)
  home : lost r = []
theorem RowsOk.ne (h : RowsOk r) : ∀ p ∈ r, p.2.ne := fun p hp => by
  have := h.what p hp
  cases e : p.2 with
  | num q => trivial
  | arr l => rw [e] at this; exact this.1
theorem RowsOk.short (h : RowsOk r) : ∀ p ∈ r, ∀ l, p.2 = .arr l → l.length ≤ 1000 := fun p hp l e => by
  have := h.what p hp
  rw [e] at this
  exact this.2.1
end
end RF
end
section
set_option linter.all false
set_option maxRecDepth 100000
set_option maxHeartbeats 4000000
set_option autoImplicit false
/-! RfRows: rows that are right are rows. -/
namespace RF
open PySem (Str)
section
variable {Φ : Fns} {k c e : Nat} {a b q : Rat} {S : Sto} {d : D} {l m : List Nat} {r : Rows}
def places (r : Rows) : List Nat := r.map (·.1)
def PairOk (f : List D → M D) : Prop := ∀ (p : Nat × What) (S : Sto), isLet p.1 = true → whatOk p.2 → f [rowD p] S = .ok (.bl true) S
def LostOk (f : List D → M D) : Prop := ∀ (r : Rows) (S : Sto), (∀ p ∈ r, p.2.ne) → (∀ p ∈ r, ∀ l, p.2 = .arr l → l.length ≤ 1000) → r.length ≤ 900 → f [rowsD r] S = .ok (.lst ((lost r).map pd)) S
def bodyA : List RF.S := [(.iff (.and [(.not (.call 21 [(.var 3)])), (.bi .any [(.comp (.cmp .nin (.var 5) (.var 1)) (.nm 5) .seq [(.var 3)] [] [5])])]) [(.ret (some (.cst (.bl false))))] [])]
theorem rowsA {R o4 : Option D} {ps : List Nat} (hE : EndOk (Φ.fn 21)) : ∀ (r : Rows) (o2 o3 o5 : Option D), (∀ p ∈ r, p.2.ne) → (∀ p ∈ r, ∀ l, p.2 = .arr l → l.length ≤ 1000 ∧ ∀ t ∈ l, t ∈ ps) →
    ∃ o2' o3', forL (fF Φ fuel (.tup [.nm 2, .nm 3]) bodyA) (r.map rowD) [R, some (.lst (ps.map pd)), o2, o3, o4, o5] S = .ok (.nx [R, some (.lst (ps.map pd)), o2', o3', o4, o5]) S
  | [], o2, o3, o5, _, _ => ⟨o2, o3, rfl⟩
  | p :: r, o2, o3, o5, hn, hl => by
    obtain ⟨o2', o3', ih⟩ := rowsA (R := R) (o4 := o4) hE r (some (pd p.1)) (some p.2.d) o5 (fun x hx => hn x (List.mem_cons_of_mem _ hx)) (fun x hx => hl x (List.mem_cons_of_mem _ hx))
    refine ⟨o2', o3', ?_⟩
    have e1 := end_ok hE (hn p (by simp)) S
    rw [List.map_cons, for_cons]
    have h : fF Φ fuel (.tup [.nm 2, .nm 3]) bodyA (rowD p) [R, some (.lst (ps.map pd)), o2, o3, o4, o5] S = .ok (.nx [R, some (.lst (ps.map pd)), some (pd p.1), some p.2.d, o4, o5]) S := by
      unfold bodyA rowD
      cases ew : p.2 with
      | num q =>
        rw [ew] at e1
        simp [fF_run, e1, isNum]
      | arr l =>
        rw [ew] at e1
        obtain ⟨h1, h2⟩ := hl p (by simp) l ew
        have hll : l.length < line := by simp [line]; omega
        have hc : ∀ t ∈ l, kF Φ (.nm 5) [] (.cmp .nin (.var 5) (.var 1)) [5] [R, some (.lst (ps.map pd)), some (pd p.1), some (What.arr l).d, o4, o5] (pd t) S = .ok (some (.bl (!decide (t ∈ ps)))) S := by
          intro t _
          simp [kF_run, wipe, c_ninL]
        have h3 := comp_map1 hc
        have h4 : itemsOf .seq [(What.arr l).d] = some (l.map pd) := rfl
        have h5 : (l.map fun t => !decide (t ∈ ps)).any id = false := by
          rw [any_map_id, List.any_eq_false]
          intro t ht
          simp [h2 t ht]
        simp [fF_run, e1, isNum, h4, h3, hll, f_any bls_map, h5, -List.any_map, -List.any_eq_false, -List.any_eq_true]
    rw [h, go_ok]
    exact ih
theorem rows_ok (hG : Φ.gl 2 = .int 10) (hP : PairOk (Φ.fn 22)) (hA : AscOk (Φ.fn 19)) (hE : EndOk (Φ.fn 21)) (hL : LostOk (Φ.fn 23)) (h : RowsOk r) : g_are_rows Φ [rowsD r] S = .ok (.bl true) S := by
  have h4 : itemsOf .seq [rowsD r] = some (r.map rowD) := rfl
  have hlen := h.len
  have hline : (r.map rowD).length < line := by simp [line]; omega
  have hl1 : biD .len [rowsD r] S = .ok (.int r.length) S := len_rows r
  have hc1 : ∀ p ∈ r, kF Φ (.nm 4) [] (.call 22 [(.var 4)]) [4] [some (rowsD r), none, none, none, none, none] (rowD p) S = .ok (some (.bl true)) S := by
    intro p hp
    have e := hP p S (h.lets p hp) (h.what p hp)
    simp [kF_run, wipe, e]
  have h1 := comp_map1 hc1
  have h1' : (r.map fun _ => true).all id = true := by simp
  have i1 : isD Φ.nc S .tuple (rowsD r) = some true := rfl
  have hlt : r.length ≤ line := by simp [line]; omega
  have hlt' : r.length < line := by simp [line]; omega
  have hc2 : ∀ p ∈ r, kF Φ (.tup [.nm 2, .nm 3]) [] (.var 2) [2, 3] [some (rowsD r), none, none, none, none, none] (rowD p) S = .ok (some (pd p.1)) S := by
    intro p hp
    unfold rowD
    simp [kF_run, wipe]
  have h2 := comp_map1 hc2
  have e2 : (r.map fun p => pd p.1) = (places r).map pd := by unfold places; rw [List.map_map]; rfl
  rw [e2] at h2
  have h3 := hA.1 (places r) S (by unfold places; rw [List.length_map]; omega)
  rw [show asc (places r) = true from h.asc] at h3
  obtain ⟨o2', o3', h5⟩ := rowsA (Φ := Φ) (S := S) (R := some (rowsD r)) (o4 := none) (ps := places r) hE r none none none h.ne (fun p hp l e => ⟨h.short p hp l e, h.to p hp l e⟩)
  have h6 := hL r S h.ne h.short (by omega)
  rw [h.home] at h6
  have e0 : p_are_rows = [(.iff (.or [(.not (.isi (.var 0) .tuple)), (.not (.chain .le .le (.cst (.int 1)) (.bi .len [(.var 0)]) (.gl 2))), (.not (.bi .all [(.comp (.call 22 [(.var 4)]) (.nm 4) .seq [(.var 0)] [] [4])]))]) [(.ret (some (.cst (.bl false))))] []), (.asg (.nm 1) (.comp (.var 2) (.tup [(.nm 2), (.nm 3)]) .seq [(.var 0)] [] [2, 3])), (.iff (.not (.call 19 [(.var 1)])) [(.ret (some (.cst (.bl false))))] []), (.forr (.tup [(.nm 2), (.nm 3)]) .seq [(.var 0)] bodyA), (.ret (some (.cmp .eq (.bi .len [(.call 23 [(.var 0)])]) (.cst (.int 0)))))] := rfl
  have s1 : denS Φ fuel (.iff (.or [(.not (.isi (.var 0) .tuple)), (.not (.chain .le .le (.cst (.int 1)) (.bi .len [(.var 0)]) (.gl 2))), (.not (.bi .all [(.comp (.call 22 [(.var 4)]) (.nm 4) .seq [(.var 0)] [] [4])]))]) [(.ret (some (.cst (.bl false))))] []) [some (rowsD r), none, none, none, none, none] S = .ok (.nx [some (rowsD r), none, none, none, none, none]) S := by
    have g1 : (1 : Int) ≤ r.length := by omega
    have g2 : (r.length : Int) ≤ 10 := by omega
    simp [i1, hl1, hG, h4, h1, hlt', f_all (bls_map (p := fun _ => true)), h1', g1, g2]
  have s2 : denS Φ fuel (.asg (.nm 1) (.comp (.var 2) (.tup [(.nm 2), (.nm 3)]) .seq [(.var 0)] [] [2, 3])) [some (rowsD r), none, none, none, none, none] S = .ok (.nx [some (rowsD r), some (.lst ((places r).map pd)), none, none, none, none]) S := by
    simp [h4, h2, hlt']
  have s3 : denS Φ fuel (.iff (.not (.call 19 [(.var 1)])) [(.ret (some (.cst (.bl false))))] []) [some (rowsD r), some (.lst ((places r).map pd)), none, none, none, none] S = .ok (.nx [some (rowsD r), some (.lst ((places r).map pd)), none, none, none, none]) S := by
    simp [h3]
  have s4 : denS Φ fuel (.forr (.tup [(.nm 2), (.nm 3)]) .seq [(.var 0)] bodyA) [some (rowsD r), some (.lst ((places r).map pd)), none, none, none, none] S = .ok (.nx [some (rowsD r), some (.lst ((places r).map pd)), o2', o3', none, none]) S := by
    rw [s_for]
    simp [h4, h5]
  have s5 : denS Φ fuel (.ret (some (.cmp .eq (.bi .len [(.call 23 [(.var 0)])]) (.cst (.int 0))))) [some (rowsD r), some (.lst ((places r).map pd)), o2', o3', none, none] S = .ok (.rt (.bl true)) S := by
    simp [h6]
  unfold g_are_rows
  rw [runB_run, e0]
  simp only [List.map_cons, List.map_nil, List.length_cons, List.length_nil, List.cons_append, List.nil_append, show List.replicate (6 - (0 + 1)) (none : Option D) = [none, none, none, none, none] from rfl, ss_cons, s1, nxt_nx, s2, s3, s4, s5, nxt_rt, ret_rt]
end
end RF
end
section
set_option linter.all false
set_option maxRecDepth 100000
set_option maxHeartbeats 4000000
set_option autoImplicit false
/-! RfTab: tables: dicts from places to rationals. -/
namespace RF
open PySem (Str)
def tabL (ks : List Nat) (f : Nat → Rat) : List (Ky × D) := ks.map fun c => (.inr (sgn c), qd (f c))
def tabD (ks : List Nat) (f : Nat → Rat) : D := .dct (tabL ks f)
def minL (l : List Nat) (f : Nat → Rat) : Rat := match l with
  | [] => 0
  | x :: l => (l.map f).foldl minQ (f x)
def maxL (l : List Nat) (f : Nat → Rat) : Rat := match l with
  | [] => 0
  | x :: l => (l.map f).foldl maxQ (f x)
def halfQ (l : List Nat) (f : Nat → Rat) : Rat := (minL l f + maxL l f) / 2
/-- what stands at a place -/
def whatAt (r : Rows) (c : Nat) : What := match r.find? (fun p => p.1 == c) with
  | some p => p.2
  | none => .arr []
def What.val (f : Nat → Rat) : What → Rat
  | .num q => q
  | .arr l => halfQ l f
def stepQ (r : Rows) (f : Nat → Rat) (c : Nat) : Rat := (whatAt r c).val f
def isTab (r : Rows) (f : Nat → Rat) : Prop := ∀ p ∈ r, f p.1 = p.2.val f
section
variable {Φ : Fns} {k c e : Nat} {a b q : Rat} {S : Sto} {d : D} {l m ks js : List Nat} {r : Rows} {f g : Nat → Rat}
/-! ### ascending lists -/
theorem asc_cons {x y : Nat} {l : List Nat} (h : asc (x :: y :: l) = true) : x < y ∧ asc (y :: l) = true := by
  unfold asc at h ⊢
  rw [List.all_eq_true] at h
  constructor
  · have := h 0 (by simp)
    simpa using this
  · rw [List.all_eq_true]
    intro i hi
    have := h (i + 1) (by simp at hi ⊢; omega)
    simpa using this
theorem asc_pw : ∀ {l : List Nat}, asc l = true → l.Pairwise (· < ·)
  | [], _ => .nil
  | [x], _ => by simp
  | x :: y :: l, h => by
    obtain ⟨h1, h2⟩ := asc_cons h
    have ih := asc_pw h2
    refine List.pairwise_cons.mpr ⟨fun z hz => ?_, ih⟩
    rcases List.mem_cons.mp hz with e | e
    · subst e; exact h1
    · exact Nat.lt_trans h1 ((List.pairwise_cons.mp ih).1 z e)
theorem asc_nodup (h : asc l = true) : l.Nodup := (asc_pw h).imp fun h => Nat.ne_of_lt h
theorem pw_asc (h : l.Pairwise (· < ·)) : asc l = true := by
  unfold asc
  rw [List.all_eq_true]
  intro i hi
  have hi' : i + 1 < l.length := by have := List.mem_range.mp hi; omega
  have := List.pairwise_iff_getElem.mp h i (i + 1) (by omega) hi' (by omega)
  have e1 : i < l.length := by omega
  simp [List.getD, e1, hi', this]
theorem RowsOk.nodup (h : RowsOk r) : (places r).Nodup := asc_nodup h.asc
theorem whatAt_of {r : Rows} (h : (places r).Nodup) {p : Nat × What} (hp : p ∈ r) : whatAt r p.1 = p.2 := by
  unfold whatAt
  induction r with
  | nil => exact nomatch hp
  | cons x r ih =>
    unfold places at h
    rw [List.map_cons, List.nodup_cons] at h
    rw [List.find?_cons]
    rcases List.mem_cons.mp hp with e | e
    · subst e; simp
    · have : (x.1 == p.1) = false := by
        simp only [beq_eq_false_iff_ne]
        intro z
        exact h.1 (z ▸ List.mem_map_of_mem (f := (·.1)) e)
      rw [this]
      exact ih h.2 e
theorem mem_places {p : Nat × What} (hp : p ∈ r) : p.1 ∈ places r := List.mem_map_of_mem (f := (·.1)) hp
/-! ### dicts -/
theorem ky_eq : ((Sum.inr (sgn c) : Ky) = .inr (sgn e)) ↔ c = e := by
  constructor
  · intro h; exact sgn_inj.mp (Sum.inr.inj h)
  · intro h; rw [h]
theorem dget_tab : ∀ {ks : List Nat}, dget (tabL ks f) (.inr (sgn c)) = if c ∈ ks then some (qd (f c)) else none
  | [] => rfl
  | x :: ks => by
    show (if (Sum.inr (sgn x) : Ky) = .inr (sgn c) then some (qd (f x)) else dget (tabL ks f) (.inr (sgn c))) = _
    rw [dget_tab]
    by_cases z : x = c
    · subst z; simp
    · have : ¬ (Sum.inr (sgn x) : Ky) = .inr (sgn c) := fun h => z (ky_eq.mp h)
      rw [if_neg this]
      simp [show ¬ c = x from fun h => z h.symm]
theorem ixD_tab (h : c ∈ ks) : ixD S (tabD ks f) (pd c) = some (qd (f c)) := by
  show (keyOf (pd c)).bind (fun q => dget (tabL ks f) q) = _
  show dget (tabL ks f) (.inr (sgn c)) = _
  rw [dget_tab, if_pos h]
theorem ixF_tab (h : c ∈ ks) : ixF (tabD ks f) (pd c) S = .ok (qd (f c)) S := ixF_of (ixD_tab h)
theorem dput_new (h : c ∉ ks) : dput (tabL ks f) (.inr (sgn c)) (qd (g c)) = tabL ks f ++ [(.inr (sgn c), qd (g c))] := by
  unfold dput
  have : ((tabL ks f).any fun p => decide (p.1 = .inr (sgn c))) = false := by
    rw [List.any_eq_false]
    intro p hp
    obtain ⟨x, hx, rfl⟩ := List.mem_map.mp hp
    simp only [decide_eq_true_eq]
    intro z
    exact h (ky_eq.mp z ▸ hx)
  rw [this]
  rfl
theorem tabL_app : tabL (ks ++ js) f = tabL ks f ++ tabL js f := List.map_append
theorem dputs_tab : ∀ {js ks : List Nat}, (ks ++ js).Nodup → dputs (tabL ks f) (tabL js f) = tabL (ks ++ js) f
  | [], ks, _ => by rw [List.append_nil]; rfl
  | x :: js, ks, h => by
    show dputs (dput (tabL ks f) (.inr (sgn x)) (qd (f x))) (tabL js f) = _
    have hx : x ∉ ks := by
      intro z
      exact (List.nodup_append.mp h).2.2 x z x (by simp) rfl
    have e : tabL ks f ++ [(.inr (sgn x), qd (f x))] = tabL (ks ++ [x]) f := by rw [tabL_app]; rfl
    rw [dput_new hx, e, dputs_tab (by simpa using h)]
    congr 1
    simp
theorem pairs_tab : ∀ {ks : List Nat}, pairsOf (ks.map fun c => .tup [pd c, qd (f c)]) = some (tabL ks f)
  | [] => rfl
  | x :: ks => by
    show (match keyOf (pd x), pairsOf (ks.map fun c => .tup [pd c, qd (f c)]) with
      | some q, some m => some ((q, qd (f x)) :: m)
      | _, _ => none) = _
    rw [pairs_tab]
    rfl
theorem dict_tab (h : ks.Nodup) (hl : ks.length ≤ 1000) : biD .dict [.lst (ks.map fun c => .tup [pd c, qd (f c)])] S = .ok (tabD ks f) S := by
  have e : biD .dict [.lst (ks.map fun c => .tup [pd c, qd (f c)])] S = (match pairsOf (ks.map fun c => .tup [pd c, qd (f c)]) with
    | some m => if m.length ≤ line then pure (D.dct (dputs [] m)) else M.no
    | none => (M.no : M D)) S := rfl
  have hl2 : (tabL ks f).length ≤ line := by unfold tabL; rw [List.length_map]; simp [line]; omega
  have hd : dputs [] (tabL ks f) = tabL ks f := by simpa [tabL] using dputs_tab (f := f) (js := ks) (ks := []) (by simpa using h)
  rw [e, pairs_tab]
  simp only [if_pos hl2, hd]
  rfl
theorem tab_congr (h : ∀ c ∈ ks, f c = g c) : tabD ks f = tabD ks g := by
  unfold tabD tabL
  congr 1
  exact List.map_congr_left fun c hc => by rw [h c hc]
theorem qd_inj : qd a = qd b ↔ a = b := by
  constructor
  · intro h
    unfold qd at h
    injection h with h
    injection h with h1 h2
    injection h2 with h2 _
    injection h1 with h1
    injection h2 with h2
    exact Rat.ext h1 (by exact_mod_cast h2)
  · exact fun h => by rw [h]
theorem eqv_qd : D.eqv (qd a) (qd b) = decide (a = b) := by
  have e : D.eqv (qd a) (qd b) = ((a.num == b.num) && (((a.den : Int) == b.den) && true)) := rfl
  rw [e, Bool.and_true]
  by_cases z : a = b
  · subst z; simp
  · rw [decide_eq_false z]
    by_cases y : a.num = b.num
    · have : (a.den : Int) ≠ b.den := fun w => z (Rat.ext y (by exact_mod_cast w))
      simp [y, this]
    · simp [y]
theorem ok_qd : okEq (qd a) (qd b) = true := rfl
theorem c_eqQ : cmpD .eq (qd a) (qd b) S = .ok (.bl (decide (a = b))) S := by
  have : cmpD .eq (qd a) (qd b) S = if okEq (qd a) (qd b) = true then .ok (.bl (D.eqv (qd a) (qd b))) S else .no := c_eqT
  rw [this, ok_qd, eqv_qd]; rfl
theorem c_neQ : cmpD .ne (qd a) (qd b) S = .ok (.bl (!decide (a = b))) S := by
  have : cmpD .ne (qd a) (qd b) S = if okEq (qd a) (qd b) = true then .ok (.bl (!D.eqv (qd a) (qd b))) S else .no := c_neT
  rw [this, ok_qd, eqv_qd]; rfl
theorem plainV_tab : plainV (tabL ks f) = true := by
  unfold plainV
  rw [List.all_eq_true]
  intro p hp
  obtain ⟨x, _, rfl⟩ := List.mem_map.mp hp
  rfl
theorem dctEq_tab (hk : ks.length = js.length) (hs : ∀ c ∈ ks, c ∈ js) : dctEq (tabL ks f) (tabL js g) = ks.all fun c => decide (f c = g c) := by
  unfold dctEq
  have e1 : (tabL ks f).length = (tabL js g).length := by unfold tabL; simp [hk]
  rw [e1]
  simp only [beq_self_eq_true, Bool.true_and]
  unfold tabL
  rw [List.all_map]
  refine Bool.eq_iff_iff.mpr ?_
  rw [List.all_eq_true, List.all_eq_true]
  refine forall_congr' fun c => forall_congr' fun hc => ?_
  have := dget_tab (f := g) (c := c) (ks := js)
  rw [if_pos (hs c hc)] at this
  unfold tabL at this
  simp only [Function.comp, this, eqv_qd]
theorem c_eqTab (hk : ks.length = js.length) (hs : ∀ c ∈ ks, c ∈ js) : cmpD .eq (tabD ks f) (tabD js g) S = .ok (.bl (ks.all fun c => decide (f c = g c))) S := by
  show (if (plainV (tabL ks f) && plainV (tabL js g)) = true then pure (D.bl (dctEq (tabL ks f) (tabL js g))) else (M.no : M D)) S = _
  rw [plainV_tab, plainV_tab, dctEq_tab hk hs]
  rfl
theorem c_neTab (hk : ks.length = js.length) (hs : ∀ c ∈ ks, c ∈ js) : cmpD .ne (tabD ks f) (tabD js g) S = .ok (.bl (!ks.all fun c => decide (f c = g c))) S := by
  show (if (plainV (tabL ks f) && plainV (tabL js g)) = true then pure (D.bl (!dctEq (tabL ks f) (tabL js g))) else (M.no : M D)) S = _
  rw [plainV_tab, plainV_tab, dctEq_tab hk hs]
  rfl
/-! ### ends_of, halved -/
def LeastOk (h : List Nat → (Nat → Rat) → Rat) (F : List D → M D) : Prop := ∀ (k : Nat) (l : List Nat) (f : Nat → Rat) (S : Sto), k ≤ 400000 → l ≠ [] → (∀ c ∈ l, sz k (f c)) → F [.lst (l.map fun c => qd (f c))] S = .ok (qd (h l f)) S
theorem least_L (h : LesserOk minQ (Φ.fn 10)) : LeastOk minL (g_least Φ) := by
  intro k l f S hk hl hs
  cases l with
  | nil => exact absurd rfl hl
  | cons x l =>
    have := least_ok (S := S) h hk (q := f x) (l := l.map f) (by
      intro y hy
      rcases List.mem_cons.mp hy with e | e
      · subst e; exact hs x (by simp)
      · obtain ⟨z, hz, rfl⟩ := List.mem_map.mp e
        exact hs z (List.mem_cons_of_mem _ hz))
    rw [List.map_cons, List.map_map] at this
    exact this
theorem greatest_L (h : LesserOk maxQ (Φ.fn 11)) : LeastOk maxL (g_greatest Φ) := by
  intro k l f S hk hl hs
  cases l with
  | nil => exact absurd rfl hl
  | cons x l =>
    have := greatest_ok (S := S) h hk (q := f x) (l := l.map f) (by
      intro y hy
      rcases List.mem_cons.mp hy with e | e
      · subst e; exact hs x (by simp)
      · obtain ⟨z, hz, rfl⟩ := List.mem_map.mp e
        exact hs z (List.mem_cons_of_mem _ hz))
    rw [List.map_cons, List.map_map] at this
    exact this
def EndsOfOk (F : List D → M D) : Prop := ∀ (k : Nat) (l ks : List Nat) (f : Nat → Rat) (S : Sto), k ≤ 400000 → l ≠ [] → l.length ≤ 1000 → (∀ c ∈ l, c ∈ ks ∧ sz k (f c)) → F [(What.arr l).d, tabD ks f] S = .ok (.tup [qd (minL l f), qd (maxL l f)]) S
theorem ends_ok (h1 : LeastOk minL (Φ.fn 13)) (h2 : LeastOk maxL (Φ.fn 14)) : EndsOfOk (g_ends_of Φ) := by
  intro k l ks f S hk h0 hl hs
  have hc : ∀ t ∈ l, kF Φ (.nm 3) [] (.ix (.var 1) (.var 3)) [3] [some (What.arr l).d, some (tabD ks f), none, none] (pd t) S = .ok (some (qd (f t))) S := by
    intro t ht
    simp [kF_run, wipe, ixF_tab (hs t ht).1]
  have e1 := comp_map1 hc
  have hll : l.length < line := by simp [line]; omega
  have h4 : itemsOf .seq [(What.arr l).d] = some (l.map pd) := rfl
  have e2 := h1 k l f S hk h0 fun c hc => (hs c hc).2
  have e3 := h2 k l f S hk h0 fun c hc => (hs c hc).2
  unfold g_ends_of p_ends_of
  simp [runB_run, h4, e1, hll, e2, e3]
theorem minQ_or (a b : Rat) : minQ a b = a ∨ minQ a b = b := by unfold minQ; split <;> simp
theorem maxQ_or (a b : Rat) : maxQ a b = a ∨ maxQ a b = b := by unfold maxQ; split <;> simp
theorem fold_mem {op : Rat → Rat → Rat} (h : ∀ a b, op a b = a ∨ op a b = b) : ∀ (l : List Rat) (q : Rat), l.foldl op q ∈ q :: l
  | [], q => by simp
  | x :: l, q => by
    have := fold_mem h l (op q x)
    rw [List.foldl_cons]
    rcases List.mem_cons.mp this with e | e
    · rw [e]
      rcases h q x with z | z <;> rw [z] <;> simp
    · simp [e]
theorem minL_mem (h : l ≠ []) : ∃ c ∈ l, minL l f = f c := by
  cases l with
  | nil => exact absurd rfl h
  | cons x l =>
    have := fold_mem minQ_or (l.map f) (f x)
    rw [← List.map_cons] at this
    obtain ⟨c, hc, e⟩ := List.mem_map.mp this
    exact ⟨c, hc, e.symm⟩
theorem maxL_mem (h : l ≠ []) : ∃ c ∈ l, maxL l f = f c := by
  cases l with
  | nil => exact absurd rfl h
  | cons x l =>
    have := fold_mem maxQ_or (l.map f) (f x)
    rw [← List.map_cons] at this
    obtain ⟨c, hc, e⟩ := List.mem_map.mp this
    exact ⟨c, hc, e.symm⟩
theorem minQ_le (a b : Rat) : minQ a b ≤ a ∧ minQ a b ≤ b := by
  unfold minQ
  split
  · rename_i h; exact ⟨Rat.le_of_lt h, Rat.le_refl⟩
  · rename_i h; exact ⟨Rat.le_refl, Rat.not_lt.mp h⟩
theorem maxQ_le (a b : Rat) : a ≤ maxQ a b ∧ b ≤ maxQ a b := by
  unfold maxQ
  split
  · rename_i h; exact ⟨Rat.le_of_lt h, Rat.le_refl⟩
  · rename_i h; exact ⟨Rat.le_refl, Rat.not_lt.mp h⟩
theorem foldMin_le : ∀ (l : List Rat) (q : Rat), l.foldl minQ q ≤ q ∧ ∀ x ∈ l, l.foldl minQ q ≤ x
  | [], q => ⟨Rat.le_refl, fun _ h => nomatch h⟩
  | y :: l, q => by
    obtain ⟨h1, h2⟩ := foldMin_le l (minQ q y)
    rw [List.foldl_cons]
    refine ⟨Rat.le_trans h1 (minQ_le q y).1, fun x hx => ?_⟩
    rcases List.mem_cons.mp hx with e | e
    · subst e; exact Rat.le_trans h1 (minQ_le q x).2
    · exact h2 x e
theorem foldMax_le : ∀ (l : List Rat) (q : Rat), q ≤ l.foldl maxQ q ∧ ∀ x ∈ l, x ≤ l.foldl maxQ q
  | [], q => ⟨Rat.le_refl, fun _ h => nomatch h⟩
  | y :: l, q => by
    obtain ⟨h1, h2⟩ := foldMax_le l (maxQ q y)
    rw [List.foldl_cons]
    refine ⟨Rat.le_trans (maxQ_le q y).1 h1, fun x hx => ?_⟩
    rcases List.mem_cons.mp hx with e | e
    · subst e; exact Rat.le_trans (maxQ_le q x).2 h1
    · exact h2 x e
theorem minL_le (h : c ∈ l) : minL l f ≤ f c := by
  cases l with
  | nil => exact nomatch h
  | cons x l =>
    obtain ⟨h1, h2⟩ := foldMin_le (l.map f) (f x)
    rcases List.mem_cons.mp h with e | e
    · subst e; exact h1
    · exact h2 _ (List.mem_map_of_mem e)
theorem maxL_le (h : c ∈ l) : f c ≤ maxL l f := by
  cases l with
  | nil => exact nomatch h
  | cons x l =>
    obtain ⟨h1, h2⟩ := foldMax_le (l.map f) (f x)
    rcases List.mem_cons.mp h with e | e
    · subst e; exact h1
    · exact h2 _ (List.mem_map_of_mem e)
theorem sz_minL (h : l ≠ []) (hs : ∀ c ∈ l, sz k (f c)) : sz k (minL l f) := by
  obtain ⟨c, hc, e⟩ := minL_mem (f := f) h
  rw [e]; exact hs c hc
theorem sz_maxL (h : l ≠ []) (hs : ∀ c ∈ l, sz k (f c)) : sz k (maxL l f) := by
  obtain ⟨c, hc, e⟩ := maxL_mem (f := f) h
  rw [e]; exact hs c hc
/-- the size of a sum -/
theorem sz_mk {t : Int} {n : Nat} (hn : n ≠ 0) (h1 : t.natAbs < 2 ^ k) (h2 : n < 2 ^ k) : sz k (mkRat t n) := by
  constructor
  · rw [Rat.num_mkRat, if_neg hn]
    exact Nat.lt_of_le_of_lt (Int.natAbs_ediv_le_natAbs _ _) h1
  · rw [Rat.den_mkRat, if_neg hn]
    exact Nat.lt_of_le_of_lt (Nat.div_le_self _ _) h2
theorem sz_add (ha : sz k a) (hb : sz k b) : sz (2 * k + 1) (a + b) := by
  rw [Rat.add_def']
  have e : (2 : Nat) ^ (2 * k + 1) = 2 ^ k * 2 ^ k + 2 ^ k * 2 ^ k := by
    rw [Nat.pow_succ, Nat.two_mul, Nat.pow_add]; omega
  have h1 : a.num.natAbs * b.den < 2 ^ k * 2 ^ k := Nat.mul_lt_mul'' ha.1 hb.2
  have h2 : b.num.natAbs * a.den < 2 ^ k * 2 ^ k := Nat.mul_lt_mul'' hb.1 ha.2
  have h3 : a.den * b.den < 2 ^ k * 2 ^ k := Nat.mul_lt_mul'' ha.2 hb.2
  refine sz_mk (Nat.mul_ne_zero a.den_nz b.den_nz) ?_ ?_
  · refine Nat.lt_of_le_of_lt (Int.natAbs_add_le _ _) ?_
    rw [Int.natAbs_mul, Int.natAbs_mul, Int.natAbs_natCast, Int.natAbs_natCast]
    omega
  · omega
theorem sz_sub (ha : sz k a) (hb : sz k b) : sz (2 * k + 1) (a - b) := by
  rw [Rat.sub_def']
  have e : (2 : Nat) ^ (2 * k + 1) = 2 ^ k * 2 ^ k + 2 ^ k * 2 ^ k := by
    rw [Nat.pow_succ, Nat.two_mul, Nat.pow_add]; omega
  have h1 : a.num.natAbs * b.den < 2 ^ k * 2 ^ k := Nat.mul_lt_mul'' ha.1 hb.2
  have h2 : b.num.natAbs * a.den < 2 ^ k * 2 ^ k := Nat.mul_lt_mul'' hb.1 ha.2
  have h3 : a.den * b.den < 2 ^ k * 2 ^ k := Nat.mul_lt_mul'' ha.2 hb.2
  refine sz_mk (Nat.mul_ne_zero a.den_nz b.den_nz) ?_ ?_
  · refine Nat.lt_of_le_of_lt (Int.natAbs_sub_le _ _) ?_
    rw [Int.natAbs_mul, Int.natAbs_mul, Int.natAbs_natCast, Int.natAbs_natCast]
    omega
  · omega
theorem sz_half (ha : sz k a) : sz (k + 1) (a / 2) := by
  rw [half_eq]
  have e : (2 : Nat) ^ (k + 1) = 2 ^ k + 2 ^ k := by rw [Nat.pow_succ]; omega
  have := ha.1
  have := ha.2
  have := a.den_pos
  exact sz_mk (by omega) (by omega) (by omega)
theorem sz_mul (ha : sz k a) (hb : sz k b) : sz (2 * k) (a * b) := by
  rw [Rat.mul_def']
  have e : (2 : Nat) ^ (2 * k) = 2 ^ k * 2 ^ k := by rw [Nat.two_mul, Nat.pow_add]
  refine sz_mk (Nat.mul_ne_zero a.den_nz b.den_nz) ?_ ?_
  · rw [Int.natAbs_mul, e]; exact Nat.mul_lt_mul'' ha.1 hb.1
  · rw [e]; exact Nat.mul_lt_mul'' ha.2 hb.2
def AddOk (h : Rat → Rat → Rat) (F : List D → M D) : Prop := ∀ (k : Nat) (a b : Rat) (S : Sto), k ≤ 4000 → sz k a → sz k b → F [qd a, qd b] S = .ok (qd (h a b)) S
def HalfOk (F : List D → M D) : Prop := ∀ (k : Nat) (a : Rat) (S : Sto), k ≤ 4000 → sz k a → F [qd a] S = .ok (qd (a / 2)) S
def HalvedOk (F : List D → M D) : Prop := ∀ (k : Nat) (l ks : List Nat) (f : Nat → Rat) (S : Sto), k ≤ 1900 → l ≠ [] → l.length ≤ 1000 → (∀ c ∈ l, c ∈ ks ∧ sz k (f c)) → F [(What.arr l).d, tabD ks f] S = .ok (qd (halfQ l f)) S
theorem halved_ok (h1 : EndsOfOk (Φ.fn 48)) (h2 : AddOk (· + ·) (Φ.fn 5)) (h3 : HalfOk (Φ.fn 12)) : HalvedOk (g_halved Φ) := by
  intro k l ks f S hk h0 hl hs
  have e1 := h1 k l ks f S (by omega) h0 hl hs
  have z1 := sz_minL h0 fun c hc => (hs c hc).2
  have z2 := sz_maxL h0 fun c hc => (hs c hc).2
  have e2 := h2 k _ _ S (by omega) z1 z2
  have e3 := h3 (2 * k + 1) _ S (by omega) (sz_add z1 z2)
  unfold g_halved p_halved halfQ
  simp [runB_run, e1, e2, e3]
end
end RF
end
section
set_option linter.all false
set_option maxRecDepth 100000
set_option maxHeartbeats 4000000
set_option autoImplicit false
/-! RfAcc: tables of rows: table_in, is_table, begun, moved. -/
namespace RF
open PySem (Str)
def papD (r : Rows) (f : Nat → Rat) : D := .tup ((places r).map fun c => qd (f c))
/-- whether numbers are the needs -/
def tabB (r : Rows) (f : Nat → Rat) : Bool := r.all fun p => decide (f p.1 = p.2.val f)
def endsP (r : Rows) : List Nat := (r.filter fun p => isNum p.2).map (·.1)
def innerP (r : Rows) : List Nat := (r.filter fun p => !isNum p.2).map (·.1)
def What.val0 (v : Rat) : What → Rat
  | .num q => q
  | .arr _ => v
/-- within no moves -/
def beginQ (r : Rows) (v : Rat) (c : Nat) : Rat := (whatAt r c).val0 v
def iterQ (r : Rows) (v : Rat) : Nat → Nat → Rat
  | 0 => beginQ r v
  | n + 1 => stepQ r (iterQ r v n)
section
variable {Φ : Fns} {k c e n : Nat} {a b q v : Rat} {S : Sto} {d : D} {l m ks js : List Nat} {r : Rows} {f g : Nat → Rat}
@[simp] theorem ixF_T2 {x y z : D} {l : List D} : ixF (.tup (x :: y :: z :: l)) (.int 2) S = .ok z S := ixF_of (by simp [ixD, atI, ixOf, show (2 : Int) < (l.length : Int) + 1 + 1 + 1 by omega])
@[simp] theorem ixF_T3 {x y z w : D} {l : List D} : ixF (.tup (x :: y :: z :: w :: l)) (.int 3) S = .ok w S := ixF_of (by simp [ixD, atI, ixOf, show (3 : Int) < (l.length : Int) + 1 + 1 + 1 + 1 by omega])
@[simp] theorem ixF_T4 {x y z w u : D} {l : List D} : ixF (.tup (x :: y :: z :: w :: u :: l)) (.int 4) S = .ok u S := ixF_of (by simp [ixD, atI, ixOf, show (4 : Int) < (l.length : Int) + 1 + 1 + 1 + 1 + 1 by omega])
@[simp] theorem ixF_T5 {x y z w u t : D} {l : List D} : ixF (.tup (x :: y :: z :: w :: u :: t :: l)) (.int 5) S = .ok t S := ixF_of (by simp [ixD, atI, ixOf, show (5 : Int) < (l.length : Int) + 1 + 1 + 1 + 1 + 1 + 1 by omega])
theorem enumL_map {α : Type} (h : α → D) : ∀ (l : List α) (n : Nat), enumL n (l.map h) = (l.zipIdx n).map fun p => .tup [.int p.2, h p.1]
  | [], _ => rfl
  | x :: l, n => by
    rw [List.map_cons, List.zipIdx_cons, List.map_cons, ← enumL_map h l (n + 1)]
    rfl
theorem zip_places (g : Nat × What → D) : (r.zipIdx.map fun p => g p.1) = r.map g := by
  have h := List.zipIdx_map_fst 0 r
  calc (r.zipIdx.map fun p => g p.1) = (r.zipIdx.map Prod.fst).map g := by rw [List.map_map]; rfl
    _ = r.map g := by rw [h]
def IsTableOk (F : List D → M D) : Prop := ∀ (k : Nat) (r : Rows) (f : Nat → Rat) (S : Sto), k ≤ 1900 → RowsOk r → (∀ c ∈ places r, sz k (f c)) → F [rowsD r, tabD (places r) f] S = .ok (.bl (tabB r f)) S
def TableInOk (F : List D → M D) : Prop := ∀ (r : Rows) (f : Nat → Rat) (S : Sto), RowsOk r → (∀ c ∈ places r, sz 8000 (f c)) → F [rowsD r, papD r f] S = .ok (tabD (places r) f) S
theorem pre_qd (h : sz 8000 q) : fracPre (qd q) := ⟨rfl, by rw [den_abs]; exact Nat.lt_of_lt_of_le h.2 (Nat.pow_le_pow_right (by decide) (by decide))⟩
theorem tableIn_ok (hF : FractionOk (Φ.fn 4)) : TableInOk (g_table_in Φ) := by
  intro r f S hr hs
  have hlen := hr.len
  have hline : r.length < line := by simp [line]; omega
  have hl1 : biD .len [rowsD r] S = .ok (.int r.length) S := len_rows r
  have hl2 : biD .len [papD r f] S = .ok (.int r.length) S := by
    have : ((places r).map fun c => qd (f c)).length = r.length := by simp [places]
    exact f_lenT.trans (by rw [this])
  have i1 : isD Φ.nc S .tuple (papD r f) = some true := rfl
  have h4 : itemsOf .seq [papD r f] = some ((places r).map fun c => qd (f c)) := rfl
  have hc1 : ∀ c ∈ places r, kF Φ (.nm 5) [] (.call 4 [(.var 5)]) [5] [some (rowsD r), some (papD r f), none, none, none, none] (qd (f c)) S = .ok (some (.bl true)) S := by
    intro c hc
    have e := hF (qd (f c)) S (pre_qd (hs c hc))
    rw [isFrac_qd] at e
    simp [kF_run, wipe, e]
  have e1 := comp_map1 hc1
  have e1' : ((places r).map fun _ => true).all id = true := by simp
  have hpl : (places r).length = r.length := by simp [places]
  have h5 : itemsOf .enum [rowsD r] = some (r.zipIdx.map fun p => .tup [.int p.2, rowD p.1]) := by
    show some (enumL 0 (r.map rowD)) = _
    rw [enumL_map]
  have hc2 : ∀ p ∈ r.zipIdx, kF Φ (.tup [.nm 2, .tup [.nm 3, .nm 4]]) [] (.tup [(.var 3), (.ix (.var 1) (.var 2))]) [2, 3, 4] [some (rowsD r), some (papD r f), none, none, none, none] (.tup [.int p.2, rowD p.1]) S = .ok (some (.tup [pd p.1.1, qd (f p.1.1)])) S := by
    intro p hp
    have hg : r[p.2]? = some p.1 := List.mem_zipIdx_iff_getElem?.mp hp
    have hi : ixF (papD r f) (.int p.2) S = .ok (qd (f p.1.1)) S := by
      have hg2 : (places r)[p.2]? = some p.1.1 := by simp [places, hg]
      exact ixF_of (atI_map (fun c => qd (f c)) (places r) p.2 hg2)
    unfold rowD
    simp [kF_run, wipe, hi]
  have e2 := comp_map1 hc2
  rw [zip_places fun p => .tup [pd p.1, qd (f p.1)]] at e2
  have e3 : (r.map fun p => D.tup [pd p.1, qd (f p.1)]) = (places r).map fun c => .tup [pd c, qd (f c)] := by
    unfold places
    rw [List.map_map]
    rfl
  rw [e3] at e2
  have e4 := dict_tab (f := f) (S := S) hr.nodup (by omega)
  unfold g_table_in p_table_in
  simp [runB_run, i1, hl1, hl2, h4, e1, hpl, hline, f_all (bls_map (p := fun _ => true)), e1', h5, e2, e4]
theorem kids_pre (h : RowsOk r) {p : Nat × What} (hp : p ∈ r) {l : List Nat} (e : p.2 = .arr l) : l ≠ [] ∧ l.length ≤ 1000 ∧ ∀ c ∈ l, c ∈ places r := by
  have h1 := h.what p hp
  rw [e] at h1
  exact ⟨h1.1, h1.2.1, h.to p hp l e⟩
/-- the value that a row wants -/
theorem row_val (hE : EndOk (Φ.fn 21)) (hH : HalvedOk (Φ.fn 55)) (hk : k ≤ 1900) (hr : RowsOk r) (hs : ∀ c ∈ places r, sz k (f c)) (hks : ∀ c ∈ places r, c ∈ ks) {p : Nat × What} (hp : p ∈ r) {i j : Nat} {δ : En} (h1 : δ[i]? = some (some p.2.d)) (h2 : δ[j]? = some (some (tabD ks f))) :
    denX Φ (.ite (.call 21 [(.var i)]) (.var i) (.call 55 [(.var i), (.var j)])) δ S = .ok (qd (p.2.val f)) S := by
  have e1 := end_ok hE (hr.ne p hp) S
  cases ew : p.2 with
  | num q =>
    rw [ew] at e1 h1
    simp [h1, e1, isNum, What.val]; rfl
  | arr l =>
    rw [ew] at e1 h1
    obtain ⟨k1, k2, k3⟩ := kids_pre hr hp ew
    have e2 := hH k l ks f S hk k1 k2 fun c hc => ⟨hks c (k3 c hc), hs c (k3 c hc)⟩
    simp [h1, h2, e1, isNum, e2, What.val]
def bodyT : List RF.S := [(.iff (.cmp .ne (.ix (.var 1) (.var 2)) (.ite (.call 21 [(.var 3)]) (.var 3) (.call 55 [(.var 3), (.var 1)]))) [(.ret (some (.cst (.bl false))))] [])]
theorem rowsT {R : Option D} (hE : EndOk (Φ.fn 21)) (hH : HalvedOk (Φ.fn 55)) (hk : k ≤ 1900) (hr : RowsOk r) (hs : ∀ c ∈ places r, sz k (f c)) : ∀ (r' : Rows) (o2 o3 : Option D), (∀ p ∈ r', p ∈ r) →
    ∃ o2' o3', forL (fF Φ fuel (.tup [.nm 2, .nm 3]) bodyT) (r'.map rowD) [R, some (tabD (places r) f), o2, o3] S = .ok (if tabB r' f = true then .nx [R, some (tabD (places r) f), o2', o3'] else .rt (.bl false)) S
  | [], o2, o3, _ => ⟨o2, o3, rfl⟩
  | p :: r', o2, o3, hsub => by
    obtain ⟨o2', o3', ih⟩ := rowsT (R := R) hE hH hk hr hs r' (some (pd p.1)) (some p.2.d) (fun x hx => hsub x (List.mem_cons_of_mem _ hx))
    refine ⟨o2', o3', ?_⟩
    have hp := hsub p (by simp)
    have e1 := row_val (S := S) (i := 3) (j := 1) (δ := [R, some (tabD (places r) f), some (pd p.1), some p.2.d]) hE hH hk hr hs (fun _ h => h) hp rfl rfl
    have e2 : ixF (tabD (places r) f) (pd p.1) S = .ok (qd (f p.1)) S := ixF_tab (mem_places hp)
    rw [List.map_cons, for_cons]
    have h : fF Φ fuel (.tup [.nm 2, .nm 3]) bodyT (rowD p) [R, some (tabD (places r) f), o2, o3] S = .ok (if f p.1 = p.2.val f then .nx [R, some (tabD (places r) f), some (pd p.1), some p.2.d] else .rt (.bl false)) S := by
      unfold bodyT rowD
      by_cases z : f p.1 = p.2.val f
      · simp [fF_run, e1, e2, c_neQ, z, -r_ite]
      · simp [fF_run, e1, e2, c_neQ, z, -r_ite]
    rw [h, go_ok]
    by_cases z : f p.1 = p.2.val f
    · have z2 : tabB (p :: r') f = tabB r' f := by unfold tabB; rw [List.all_cons]; simp [z]
      rw [if_pos z, z2]
      exact ih
    · have z2 : tabB (p :: r') f = false := by unfold tabB; rw [List.all_cons]; simp [z]
      rw [if_neg z, z2]
      rfl
theorem isTable_ok (hE : EndOk (Φ.fn 21)) (hH : HalvedOk (Φ.fn 55)) : IsTableOk (g_is_table Φ) := by
  intro k r f S hk hr hs
  obtain ⟨o2', o3', e⟩ := rowsT (S := S) (R := some (rowsD r)) hE hH hk hr hs r none none (fun _ h => h)
  have h4 : itemsOf .seq [rowsD r] = some (r.map rowD) := rfl
  have e0 : p_is_table = [(.forr (.tup [(.nm 2), (.nm 3)]) .seq [(.var 0)] bodyT), (.ret (some (.cst (.bl true))))] := rfl
  unfold g_is_table
  rw [e0]
  simp [runB_run, h4, e]
  cases tabB r f <;> simp
/-! ### begun, moved -/
def EndsInOk (F : List D → M D) : Prop := ∀ (r : Rows) (v : Rat) (S : Sto), RowsOk r → F [rowsD r] S = .ok (tabD (endsP r) (beginQ r v)) S
theorem endsIn_ok (hE : EndOk (Φ.fn 21)) : EndsInOk (g_ends_in Φ) := by
  intro r v S hr
  have hlen := hr.len
  have hline : r.length < line := by simp [line]; omega
  have h4 : itemsOf .seq [rowsD r] = some (r.map rowD) := rfl
  have hc1 : ∀ p ∈ r, kF Φ (.tup [.nm 1, .nm 2]) [(.call 21 [(.var 2)])] (.tup [(.var 1), (.var 2)]) [1, 2] [some (rowsD r), none, none] (rowD p) S = .ok (if isNum p.2 = true then some (.tup [pd p.1, p.2.d]) else none) S := by
    intro p hp
    have e := end_ok hE (hr.ne p hp) S
    unfold rowD
    cases z : isNum p.2 <;> simp [kF_run, wipe, e, z]
  have h1 := comp_map hc1
  rw [filter_comp (fun p : Nat × What => isNum p.2) (fun p => .tup [pd p.1, p.2.d])] at h1
  have e1 : ((r.filter fun p => isNum p.2).map fun p => D.tup [pd p.1, p.2.d]) = (endsP r).map fun c => .tup [pd c, qd (beginQ r v c)] := by
    unfold endsP
    rw [List.map_map]
    refine List.map_congr_left fun p hp => ?_
    obtain ⟨hp1, hp2⟩ := List.mem_filter.mp hp
    show _ = D.tup [pd p.1, qd (beginQ r v p.1)]
    unfold beginQ
    rw [whatAt_of hr.nodup hp1]
    cases ew : p.2 with
    | num q => rfl
    | arr l => rw [ew] at hp2; cases hp2
  rw [e1] at h1
  have hn : (endsP r).Nodup := by
    unfold endsP
    exact (List.Sublist.map _ (List.filter_sublist)).nodup hr.nodup
  have hl : (endsP r).length ≤ 1000 := by
    have : (endsP r).length ≤ r.length := by unfold endsP; rw [List.length_map]; exact List.length_filter_le _ _
    omega
  have e4 := dict_tab (f := beginQ r v) (S := S) hn hl
  unfold g_ends_in p_ends_in
  simp [runN_run, h4, h1, hline, e4]
theorem setIx_tab {i : Nat} {δ : En} (h : c ∉ ks) (hl : ks.length ≤ 1000) (e : q = f c) : setIxF i (tabD ks f) (pd c) (qd q) δ S = .ok (.nx (δ.set i (some (tabD (ks ++ [c]) f)))) S := by
  subst e
  have e1 : setIxF i (tabD ks f) (pd c) (qd (f c)) δ S = if (tabL ks f).length < line then .ok (.nx (δ.set i (some (.dct (dput (tabL ks f) (.inr (sgn c)) (qd (f c))))))) S else .no := ite_run
  have hl2 : (tabL ks f).length < line := by unfold tabL; rw [List.length_map]; simp [line]; omega
  rw [e1, if_pos hl2, dput_new h]
  have : tabL ks f ++ [(.inr (sgn c), qd (f c))] = tabL (ks ++ [c]) f := by rw [tabL_app]; rfl
  rw [this]
  rfl
def bodyB : List RF.S := [(.iff (.not (.call 21 [(.var 4)])) [(.setIx 2 (.var 3) (.var 1))] [])]
theorem rowsB {R : Option D} (hE : EndOk (Φ.fn 21)) (hr : RowsOk r) : ∀ (r' : Rows) (ks : List Nat) (o3 o4 : Option D), (∀ p ∈ r', p ∈ r) → (ks ++ innerP r').Nodup → ks.length + r'.length ≤ 900 →
    ∃ o3' o4', forL (fF Φ fuel (.tup [.nm 3, .nm 4]) bodyB) (r'.map rowD) [R, some (qd v), some (tabD ks (beginQ r v)), o3, o4] S = .ok (.nx [R, some (qd v), some (tabD (ks ++ innerP r') (beginQ r v)), o3', o4']) S
  | [], ks, o3, o4, _, _, _ => ⟨o3, o4, by rw [show innerP [] = [] from rfl, List.append_nil]; rfl⟩
  | p :: r', ks, o3, o4, hsub, hn, hl => by
    have hp := hsub p (by simp)
    have e1 := end_ok hE (hr.ne p hp) S
    rw [List.length_cons] at hl
    rw [List.map_cons, for_cons]
    cases z : isNum p.2 with
    | true =>
      have e3 : innerP (p :: r') = innerP r' := by unfold innerP; rw [List.filter_cons]; simp [z]
      rw [e3] at hn ⊢
      obtain ⟨o3', o4', ih⟩ := rowsB (R := R) hE hr r' ks (some (pd p.1)) (some p.2.d) (fun x hx => hsub x (List.mem_cons_of_mem _ hx)) hn (by omega)
      refine ⟨o3', o4', ?_⟩
      have h : fF Φ fuel (.tup [.nm 3, .nm 4]) bodyB (rowD p) [R, some (qd v), some (tabD ks (beginQ r v)), o3, o4] S = .ok (.nx [R, some (qd v), some (tabD ks (beginQ r v)), some (pd p.1), some p.2.d]) S := by
        unfold bodyB rowD
        simp [fF_run, e1, z]
      rw [h, go_ok]
      exact ih
    | false =>
      have e3 : innerP (p :: r') = p.1 :: innerP r' := by unfold innerP; rw [List.filter_cons]; simp [z]
      rw [e3] at hn ⊢
      have hnot : p.1 ∉ ks := fun y => (List.nodup_append.mp hn).2.2 _ y _ (by simp) rfl
      have e4 : ks ++ p.1 :: innerP r' = ks ++ [p.1] ++ innerP r' := by simp
      rw [e4] at hn ⊢
      obtain ⟨o3', o4', ih⟩ := rowsB (R := R) hE hr r' (ks ++ [p.1]) (some (pd p.1)) (some p.2.d) (fun x hx => hsub x (List.mem_cons_of_mem _ hx)) hn (by simp; omega)
      refine ⟨o3', o4', ?_⟩
      have hv : v = beginQ r v p.1 := by
        unfold beginQ
        rw [whatAt_of hr.nodup hp]
        cases ew : p.2 with
        | num q => rw [ew] at z; cases z
        | arr l => rfl
      have hset : ∀ δ : En, setIxF 2 (tabD ks (beginQ r v)) (pd p.1) (qd v) δ S = .ok (.nx (δ.set 2 (some (tabD (ks ++ [p.1]) (beginQ r v))))) S := fun δ => setIx_tab hnot (by omega) hv
      have h : fF Φ fuel (.tup [.nm 3, .nm 4]) bodyB (rowD p) [R, some (qd v), some (tabD ks (beginQ r v)), o3, o4] S = .ok (.nx [R, some (qd v), some (tabD (ks ++ [p.1]) (beginQ r v)), some (pd p.1), some p.2.d]) S := by
        unfold bodyB rowD
        simp [fF_run, e1, z, hset]
      rw [h, go_ok]
      exact ih
def begP (r : Rows) : List Nat := endsP r ++ innerP r
def BegunOk (F : List D → M D) : Prop := ∀ (r : Rows) (v : Rat) (S : Sto), RowsOk r → F [rowsD r, qd v] S = .ok (tabD (begP r) (beginQ r v)) S
theorem begP_perm (r : Rows) : (begP r).Perm (places r) := by
  unfold begP endsP innerP places
  rw [← List.map_append]
  exact (List.filter_append_perm _ _).map _
theorem begun_ok (hE : EndOk (Φ.fn 21)) (hI : EndsInOk (Φ.fn 38)) : BegunOk (g_begun Φ) := by
  intro r v S hr
  have hlen := hr.len
  have e1 := hI r v S hr
  have hn : (begP r).Nodup := (begP_perm r).nodup_iff.mpr hr.nodup
  have hl : (endsP r).length ≤ r.length := by unfold endsP; rw [List.length_map]; exact List.length_filter_le _ _
  obtain ⟨o3', o4', e2⟩ := rowsB (Φ := Φ) (S := S) (R := some (rowsD r)) (v := v) hE hr r (endsP r) none none (fun _ h => h) hn (by omega)
  have h4 : itemsOf .seq [rowsD r] = some (r.map rowD) := rfl
  have e0 : p_begun = [(.asg (.nm 2) (.call 38 [(.var 0)])), (.forr (.tup [(.nm 3), (.nm 4)]) .seq [(.var 0)] bodyB), (.ret (some (.var 2)))] := rfl
  unfold g_begun
  rw [e0]
  simp [runB_run, e1, h4, e2, begP]
/-- keys of a table of rows -/
def KeysOk (r : Rows) (ks : List Nat) : Prop := ks.Perm (places r)
def MovedOk (F : List D → M D) : Prop := ∀ (k : Nat) (r : Rows) (ks : List Nat) (f : Nat → Rat) (S : Sto), k ≤ 1900 → RowsOk r → KeysOk r ks → (∀ c ∈ places r, sz k (f c)) → F [rowsD r, tabD ks f] S = .ok (tabD (places r) (stepQ r f)) S
theorem moved_ok (hE : EndOk (Φ.fn 21)) (hH : HalvedOk (Φ.fn 55)) : MovedOk (g_moved Φ) := by
  intro k r ks f S hk hr hks hs
  have hlen := hr.len
  have hline : r.length < line := by simp [line]; omega
  have h4 : itemsOf .seq [rowsD r] = some (r.map rowD) := rfl
  have hc1 : ∀ p ∈ r, kF Φ (.tup [.nm 2, .nm 3]) [] (.tup [(.var 2), (.ite (.call 21 [(.var 3)]) (.var 3) (.call 55 [(.var 3), (.var 1)]))]) [2, 3] [some (rowsD r), some (tabD ks f), none, none] (rowD p) S = .ok (some (.tup [pd p.1, qd (stepQ r f p.1)])) S := by
    intro p hp
    have e1 := row_val (S := S) (i := 3) (j := 1) (δ := [some (rowsD r), some (tabD ks f), some (pd p.1), some p.2.d]) hE hH hk hr hs (fun c h => (hks.mem_iff).mpr h) hp rfl rfl
    have e2 : stepQ r f p.1 = p.2.val f := by unfold stepQ; rw [whatAt_of hr.nodup hp]
    rw [e2]
    unfold rowD
    simp [kF_run, wipe, e1, -r_ite]
  have h1 := comp_map1 hc1
  have e3 : (r.map fun p => D.tup [pd p.1, qd (stepQ r f p.1)]) = (places r).map fun c => .tup [pd c, qd (stepQ r f c)] := by
    unfold places
    rw [List.map_map]
    rfl
  rw [e3] at h1
  have e4 := dict_tab (f := stepQ r f) (S := S) hr.nodup (by simp [places]; omega)
  unfold g_moved p_moved
  simp only [runB_run, List.map_cons, List.map_nil, List.cons_append, List.nil_append, List.length_cons, List.length_nil, show List.replicate (4 - (0 + 1 + 1)) (none : Option D) = [none, none] from rfl, ss_cons, s_ret, r_bi, rs_cons, rs_nil, r_comp, r_var, getV_run, List.getElem?_cons_zero, go_ok, h4, ofO_some, h1, List.length_map, hline, if_true]
  simp [e4, hline]
end
end RF
end
section
set_option linter.all false
set_option maxRecDepth 100000
set_option maxHeartbeats 4000000
set_option autoImplicit false
/-! RfAcc2: claims that are right, and what is accepted. -/
namespace RF
open PySem (Str)
def claimD (w : Str) (r : Rows) (c : Nat) (rest : List D) : D := .tup (.str w :: rowsD r :: pd c :: rest)
/-- whether a bid is safe -/
def safeB (r : Rows) (f : Nat → Rat) (c : Nat) (s b : Rat) (t : Nat) : Bool := match whatAt r c with
  | .num _ => false
  | .arr l => decide (t ∈ l) && (!decide (s < b) && (decide (f c < s) && (decide (maxL l f - s < b) && decide (b < s - f t))))
section
variable {Φ : Fns} {k c e t n : Nat} {a b q s v : Rat} {S : Sto} {d : D} {l m ks js : List Nat} {r : Rows} {f g : Nat → Rat} {w : Str}
theorem places_comp (i j i1 i2 : Nat) {R : D} {δ : En} (h4 : itemsOf .seq [R] = some (r.map rowD)) (hl : r.length ≤ 10) (h1 : wipe δ [i1, i2] = δ) (hi : i1 < δ.length) (hj : i2 < δ.length) (hne : i1 ≠ i2) :
    compL (kF Φ (.tup [.nm i1, .nm i2]) [] (.var i1) [i1, i2] δ) (r.map rowD) S = .ok ((places r).map pd) S := by
  have hc2 : ∀ p ∈ r, kF Φ (.tup [.nm i1, .nm i2]) [] (.var i1) [i1, i2] δ (rowD p) S = .ok (some (pd p.1)) S := by
    intro p hp
    unfold rowD
    have h3 : ((δ.set i1 (some (pd p.1))).set i2 (some p.2.d))[i1]? = some (some (pd p.1)) := by
      rw [List.getElem?_set_ne (Ne.symm hne)]
      simp [hi]
    have hb : bindT (.tup [.nm i1, .nm i2]) (.tup [pd p.1, p.2.d]) (wipe δ [i1, i2]) = some ((δ.set i1 (some (pd p.1))).set i2 (some p.2.d)) := by simp [h1, hi, hj]
    rw [kF_run, hb]
    simp only [ofO_some, go_ok, and_nil, if_true, r_var, getV_run, h3]
  have h2 := comp_map1 hc2
  have e2 : (r.map fun p => pd p.1) = (places r).map pd := by unfold places; rw [List.map_map]; rfl
  rw [e2] at h2
  exact h2
def ClaimOk (F : List D → M D) : Prop := (∀ (w : Str) (r : Rows) (c : Nat) (q : Rat) (S : Sto), w = "needs" ∨ w = "above" ∨ w = "below" → RowsOk r → c ∈ places r → sz 8000 q → F [claimD w r c [qd q]] S = .ok (.bl true) S) ∧
  (∀ (r : Rows) (c n : Nat) (q : Rat) (S : Sto), RowsOk r → c ∈ places r → n ≤ 60 → sz 8000 q → F [claimD "within" r c [.int n, qd q]] S = .ok (.bl true) S) ∧
  ∀ (r : Rows) (c t : Nat) (s b : Rat) (S : Sto), RowsOk r → c ∈ places r → t ∈ places r → sz 8000 s → sz 8000 b → 0 ≤ s → s ≤ 1 → 0 ≤ b → b ≤ 1 → F [claimD "safe" r c [qd s, qd b, pd t]] S = .ok (.bl true) S
/-- .. is_about -/
def AboutOk (F : List D → M D) : Prop := ClaimOk F
theorem nw : ∀ {w : Str}, w = "needs" ∨ w = "above" ∨ w = "below" → w ≠ "within" ∧ w ≠ "safe" := by
  rintro w (h | h | h) <;> subst h <;> exact ⟨by decide, by decide⟩
theorem ws_ne : ("safe" : Str) ≠ "within" := by decide
theorem about_ok (hG : Φ.gl 3 = .int 60) (hB : BetweenOk (Φ.fn 0)) (hF : FractionOk (Φ.fn 4)) (hS : ShareOk (Φ.fn 16)) : AboutOk (g_is_about Φ) := by
  refine ⟨fun w r c q S hw hr hc hq => ?_, fun r c n q S hr hc hn hq => ?_, fun r c t s b S hr hc ht hs hb s0 s1 b0 b1 => ?_⟩
  · obtain ⟨w1, w2⟩ := nw hw
    have e := hF (qd q) S (pre_qd hq)
    rw [isFrac_qd] at e
    unfold g_is_about p_is_about claimD
    simp [runB_run, w1, w2, e]
  · have e := hF (qd q) S (pre_qd hq)
    rw [isFrac_qd] at e
    have e2 := hB (.int n) (some 0) (some 60) S rfl
    have e3 : isBetween (.int (n : Int)) (some 0) (some 60) = true := by simp [isBetween]; omega
    rw [e3] at e2
    simp only [optD] at e2
    unfold g_is_about p_is_about claimD
    simp [runB_run, hG, e, e2]
  · have e1 := hS.1 8000 s S (by decide) hs
    have e2 := hS.1 8000 b S (by decide) hb
    have h4 : itemsOf .seq [rowsD r] = some (r.map rowD) := rfl
    have hl := hr.len
    have h5 := places_comp (Φ := Φ) (S := S) (r := r) 1 2 2 3 (R := rowsD r) (δ := [some (claimD "safe" r c [qd s, qd b, pd t]), none, none, none]) h4 hl.2 rfl (by simp) (by simp) (by decide)
    have hline : r.length < line := by simp [line]; omega
    have i1 : isD Φ.nc S .str (pd t) = some true := rfl
    unfold g_is_about p_is_about
    unfold claimD at h5 ⊢
    simp [runB_run, ws_ne, h4, h5, hline, e1, e2, i1, c_inL, ht, s0, s1, b0, b1]
def RowsOkF (F : List D → M D) : Prop := ∀ (r : Rows) (S : Sto), RowsOk r → F [rowsD r] S = .ok (.bl true) S
def LENS : List (Str × D) := [("needs", .int 4), ("above", .int 4), ("below", .int 4), ("within", .int 5), ("safe", .int 6)]
theorem claim_core (hT : Φ.tb 2 = LENS) (hR : RowsOkF (Φ.fn 24)) (hr : RowsOk r) (hc : c ∈ places r) {rest : List D} (hl : LENS.lookup w = some (.int (rest.length + 3))) (ha : Φ.fn 98 [claimD w r c rest] S = .ok (.bl true) S) : g_is_claim Φ [claimD w r c rest] S = .ok (.bl true) S := by
  have h4 : itemsOf .seq [rowsD r] = some (r.map rowD) := rfl
  have hlen := hr.len
  have h5 := places_comp (Φ := Φ) (S := S) (r := r) 1 2 1 2 (R := rowsD r) (δ := [some (claimD w r c rest), none, none]) h4 hlen.2 rfl (by simp) (by simp) (by decide)
  have hline : r.length < line := by simp [line]; omega
  have i1 : isD Φ.nc S .str (pd c) = some true := rfl
  have i2 : ∀ w : Str, isD Φ.nc S .str (.str w) = some true := fun _ => rfl
  have i3 : ∀ l : List D, isD Φ.nc S .tuple (.tup l) = some true := fun _ => rfl
  have e1 := hR r S hr
  have g1 : inGF LENS true (.str w) S = .ok (.bl false) S := by
    show Out.ok (D.bl (!(LENS.lookup w).isSome)) S = _
    rw [hl]
    rfl
  have g2 : ixGF LENS (.str w) S = .ok (.int (rest.length + 3)) S := by
    show M.ofO (LENS.lookup w) S = _
    rw [hl]
    rfl
  have g3 : ¬ ((rest.length : Int) + 3 = 0) := by omega
  have g4 : (rest.length : Int) + 1 + 1 + 1 = rest.length + 3 := by omega
  unfold g_is_claim p_is_claim
  unfold claimD at h5 ha ⊢
  simp [runB_run, i1, i2, i3, hT, g1, g2, g3, g4, e1, h4, h5, hline, c_inL, hc, ha]
theorem claim_ok (hT : Φ.tb 2 = LENS) (hR : RowsOkF (Φ.fn 24)) (hA : AboutOk (Φ.fn 98)) : ClaimOk (g_is_claim Φ) := by
  refine ⟨fun w r c q S hw hr hc hq => ?_, fun r c n q S hr hc hn hq => ?_, fun r c t s b S hr hc ht hs hb s0 s1 b0 b1 => ?_⟩
  · exact claim_core hT hR hr hc (by rcases hw with h | h | h <;> subst h <;> rfl) (hA.1 w r c q S hw hr hc hq)
  · exact claim_core hT hR hr hc rfl (hA.2.1 r c n q S hr hc hn hq)
  · exact claim_core hT hR hr hc rfl (hA.2.2 r c t s b S hr hc ht hs hb s0 s1 b0 b1)
/-! ### tables within so many moves -/
/-- whether papers are the tables -/
def withinB (r : Rows) (v : Rat) : Nat → List (Nat → Rat) → Bool
  | _, [] => true
  | n, f :: fs => ((places r).all fun c => decide (f c = iterQ r v n c)) && withinB r v (n + 1) fs
def bodyW : List RF.S := [(.iff (.cmp .ne (.call 100 [(.var 2), (.var 4)]) (.var 3)) [(.ret (some (.cst (.bl false))))] []), (.asg (.nm 5) (.var 3)), (.asg (.nm 3) (.call 58 [(.var 2), (.var 3)]))]
theorem rowsW {C P : Option D} (hI : TableInOk (Φ.fn 100)) (hM : MovedOk (Φ.fn 58)) (hk : k ≤ 1900) (hr : RowsOk r) : ∀ (fs : List (Nat → Rat)) (n : Nat) (ks : List Nat) (o4 o5 : Option D), KeysOk r ks → (∀ f ∈ fs, ∀ c ∈ places r, sz 8000 (f c)) → (∀ i, i ≤ n + fs.length → ∀ c ∈ places r, sz k (iterQ r v i c)) →
    ∃ ks5 ks3 o4', KeysOk r ks5 ∧ forL (fF Φ fuel (.nm 4) bodyW) (fs.map (papD r)) [C, P, some (rowsD r), some (tabD ks (iterQ r v n)), o4, o5] S
      = .ok (if withinB r v n fs = true then .nx [C, P, some (rowsD r), some (tabD ks3 (iterQ r v (n + fs.length))), o4', if fs.length = 0 then o5 else some (tabD ks5 (iterQ r v (n + fs.length - 1)))] else .rt (.bl false)) S
  | [], n, ks, o4, o5, hks, _, _ => ⟨ks, ks, o4, hks, rfl⟩
  | f :: fs, n, ks, o4, o5, hks, hsf, hs => by
    obtain ⟨ks5, ks3, o4', hk5, ih⟩ := rowsW (C := C) (P := P) hI hM hk hr fs (n + 1) (places r) (some (papD r f)) (some (tabD ks (iterQ r v n))) (.refl _) (fun g hg => hsf g (List.mem_cons_of_mem _ hg)) (fun i hi => hs i (by simp; omega))
    have e1 := hI r f S hr (hsf f (by simp))
    have e2 := hM k r ks (iterQ r v n) S hk hr hks (hs n (by omega))
    have hlen : (places r).length = ks.length := hks.length_eq.symm
    have e3 : cmpD .ne (tabD (places r) f) (tabD ks (iterQ r v n)) S = .ok (.bl (!(places r).all fun c => decide (f c = iterQ r v n c))) S := c_neTab hlen fun c h => hks.mem_iff.mpr h
    rw [List.map_cons]
    have h : fF Φ fuel (.nm 4) bodyW (papD r f) [C, P, some (rowsD r), some (tabD ks (iterQ r v n)), o4, o5] S = .ok (if ((places r).all fun c => decide (f c = iterQ r v n c)) = true then .nx [C, P, some (rowsD r), some (tabD (places r) (iterQ r v (n + 1))), some (papD r f), some (tabD ks (iterQ r v n))] else .rt (.bl false)) S := by
      unfold bodyW
      cases z : (places r).all fun c => decide (f c = iterQ r v n c) with
      | true =>
        rw [z] at e3
        simp [fF_run, e1, e3, e2, iterQ]
      | false =>
        rw [z] at e3
        simp [fF_run, e1, e3]
    cases z : (places r).all fun c => decide (f c = iterQ r v n c) with
    | true =>
      rw [z] at h
      have zw : withinB r v n (f :: fs) = withinB r v (n + 1) fs := by
        show (((places r).all fun c => decide (f c = iterQ r v n c)) && _) = _
        rw [z, Bool.true_and]
      cases hfs : fs.length with
      | zero =>
        have : fs = [] := List.length_eq_zero_iff.mp hfs
        subst this
        refine ⟨ks, places r, some (papD r f), hks, ?_⟩
        rw [for_cons, h, go_ok, zw]
        simp [withinB]
      | succ m =>
        refine ⟨ks5, ks3, o4', hk5, ?_⟩
        rw [for_cons, h, go_ok, zw]
        rw [hfs] at ih
        have e1 : n + 1 + (m + 1) = n + (m + 1 + 1) := by omega
        rw [e1] at ih
        simpa [hfs] using ih
    | false =>
      rw [z] at h
      have zw : withinB r v n (f :: fs) = false := by
        show (((places r).all fun c => decide (f c = iterQ r v n c)) && _) = _
        rw [z, Bool.false_and]
      refine ⟨ks, ks, o4, hks, ?_⟩
      rw [for_cons, h, go_ok, zw]
      simp
/-- what shows_within tells -/
def wthB (r : Rows) (c n : Nat) (q : Rat) (fs : List (Nat → Rat)) : Bool := decide (fs.length = n + 1) && (withinB r 1 0 fs && decide (iterQ r 1 n c = q))
def WthOk (F : List D → M D) : Prop := ∀ (k : Nat) (r : Rows) (c n : Nat) (q : Rat) (fs : List (Nat → Rat)) (S : Sto), k ≤ 1900 → RowsOk r → c ∈ places r → (∀ f ∈ fs, ∀ c ∈ places r, sz 8000 (f c)) → (∀ i, i ≤ n + 1 → ∀ c ∈ places r, sz k (iterQ r 1 i c)) →
  F [claimD "within" r c [.int n, qd q], .tup (fs.map (papD r))] S = .ok (.bl (wthB r c n q fs)) S
theorem wth_ok (hG : Φ.gl 1 = qd 1) (hB : BegunOk (Φ.fn 57)) (hI : TableInOk (Φ.fn 100)) (hM : MovedOk (Φ.fn 58)) : WthOk (g_shows_within Φ) := by
  intro k r c n q fs S hk hr hc hsf hs
  have i3 : ∀ l : List D, isD Φ.nc S .tuple (.tup l) = some true := fun _ => rfl
  have e1 := hB r 1 S hr
  have e0 : p_shows_within = [(.asg (.nm 2) (.ix (.var 0) (.cst (.int 1)))), (.iff (.or [(.not (.isi (.var 1) .tuple)), (.cmp .ne (.bi .len [(.var 1)]) (.bin .add (.ix (.var 0) (.cst (.int 3))) (.cst (.int 1))))]) [(.ret (some (.cst (.bl false))))] []), (.asg (.nm 3) (.call 57 [(.var 2), (.gl 1)])), (.forr (.nm 4) .seq [(.var 1)] bodyW), (.ret (some (.cmp .eq (.ix (.var 5) (.ix (.var 0) (.cst (.int 2)))) (.ix (.var 0) (.cst (.int 4))))))] := rfl
  have e00 : tabD (begP r) (beginQ r 1) = tabD (begP r) (iterQ r 1 0) := rfl
  rw [e00] at e1
  by_cases hl : fs.length = n + 1
  · obtain ⟨ks5, ks3, o4', hk5, e2⟩ := rowsW (Φ := Φ) (S := S) (v := 1) (C := some (claimD "within" r c [.int n, qd q])) (P := some (.tup (fs.map (papD r)))) hI hM hk hr fs 0 (begP r) none none (begP_perm r) hsf (by rw [hl]; simpa using hs)
    have h4 : itemsOf .seq [.tup (fs.map (papD r))] = some (fs.map (papD r)) := rfl
    have e3 : ixF (tabD ks5 (iterQ r 1 n)) (pd c) S = .ok (qd (iterQ r 1 n c)) S := ixF_tab (hk5.mem_iff.mpr hc)
    have e4 : 0 + fs.length - 1 = n := by omega
    have e5 : ¬ fs.length = 0 := by omega
    rw [e4, if_neg e5] at e2
    unfold g_shows_within wthB
    rw [e0]
    unfold claimD at e2 ⊢
    cases z : withinB r 1 0 fs with
    | true =>
      rw [z] at e2
      simp [runB_run, i3, hl, hG, e1, h4, e2, e3, c_eqQ]
    | false =>
      rw [z] at e2
      simp [runB_run, i3, hl, hG, e1, h4, e2]
  · have e5 : ¬ ((fs.length : Int) = n + 1) := by omega
    unfold g_shows_within wthB
    rw [e0]
    unfold claimD
    simp [runB_run, i3, e5, hl]
/-! ### safe bids -/
def StretchOk (F : List D → M D) : Prop := ∀ (k : Nat) (l ks : List Nat) (f : Nat → Rat) (s : Rat) (t : Nat) (S : Sto), k ≤ 1900 → l ≠ [] → l.length ≤ 1000 → (∀ c ∈ l, c ∈ ks ∧ sz k (f c)) → t ∈ l → sz k s →
  F [(What.arr l).d, tabD ks f, qd s, .str "first", pd t] S = .ok (.tup [qd (maxL l f - s), qd (s - f t)]) S
theorem stretch_ok (h1 : EndsOfOk (Φ.fn 48)) (h2 : AddOk (· - ·) (Φ.fn 6)) : StretchOk (g_stretch Φ) := by
  intro k l ks f s t S hk h0 hl hs ht hss
  have e1 := h1 k l ks f S (by omega) h0 hl hs
  have z2 := sz_maxL h0 fun c hc => (hs c hc).2
  have e2 := h2 k (maxL l f) s S (by omega) z2 hss
  have e3 := h2 k s (f t) S (by omega) hss (hs t ht).2
  have e4 : ixF (tabD ks f) (pd t) S = .ok (qd (f t)) S := ixF_tab (hs t ht).1
  unfold g_stretch p_stretch
  simp [runB_run, e1, e2, e3, e4]
def rowsL (r : Rows) : List (Ky × D) := r.map fun p => (.inr (sgn p.1), p.2.d)
theorem dget_rows : ∀ {r : Rows}, (places r).Nodup → c ∈ places r → dget (rowsL r) (.inr (sgn c)) = some (whatAt r c).d
  | [], _, h => nomatch h
  | p :: r, hn, h => by
    show (if (Sum.inr (sgn p.1) : Ky) = .inr (sgn c) then some p.2.d else dget (rowsL r) (.inr (sgn c))) = _
    unfold places at hn h
    rw [List.map_cons] at hn h
    by_cases z : p.1 = c
    · rw [if_pos (ky_eq.mpr z)]
      unfold whatAt
      rw [List.find?_cons]
      simp [z]
    · rw [if_neg fun y => z (ky_eq.mp y)]
      have h' : c ∈ places r := by
        rcases List.mem_cons.mp h with y | y
        · exact absurd y.symm z
        · exact y
      rw [dget_rows (List.nodup_cons.mp hn).2 h']
      unfold whatAt
      rw [List.find?_cons]
      have : (p.1 == c) = false := by simpa using z
      rw [this]
theorem dput_rows (hn : c ∉ places r) {w : What} : dput (rowsL r) (.inr (sgn c)) w.d = rowsL (r ++ [(c, w)]) := by
  unfold dput
  have : ((rowsL r).any fun p => decide (p.1 = .inr (sgn c))) = false := by
    rw [List.any_eq_false]
    intro p hp
    obtain ⟨x, hx, rfl⟩ := List.mem_map.mp hp
    simp only [decide_eq_true_eq]
    intro z
    exact hn (ky_eq.mp z ▸ mem_places hx)
  rw [this]
  unfold rowsL
  rw [List.map_append]
  rfl
theorem dputs_rows : ∀ {r2 r1 : Rows}, (places (r1 ++ r2)).Nodup → dputs (rowsL r1) (rowsL r2) = rowsL (r1 ++ r2)
  | [], r1, _ => by rw [List.append_nil]; rfl
  | p :: r2, r1, h => by
    show dputs (dput (rowsL r1) (.inr (sgn p.1)) p.2.d) (rowsL r2) = _
    have hx : p.1 ∉ places r1 := by
      unfold places at h ⊢
      rw [List.map_append] at h
      intro z
      exact (List.nodup_append.mp h).2.2 _ z p.1 (by simp) rfl
    have e : r1 ++ p :: r2 = (r1 ++ [(p.1, p.2)]) ++ r2 := by simp
    rw [dput_rows hx, e]
    exact dputs_rows (by rw [← e]; exact h)
theorem pairs_rows : ∀ {r : Rows}, pairsOf (r.map rowD) = some (rowsL r)
  | [] => rfl
  | p :: r => by
    show (match keyOf (pd p.1), pairsOf (r.map rowD) with
      | some q, some m => some ((q, p.2.d) :: m)
      | _, _ => none) = _
    rw [pairs_rows]
    rfl
end
end RF
end
section
set_option linter.all false
set_option maxRecDepth 100000
set_option maxHeartbeats 4000000
set_option autoImplicit false
/-! RfAcc3: safe bids shown; what is accepted. -/
namespace RF
open PySem (Str)
section
variable {Φ : Fns} {k c e t n : Nat} {a b q s v : Rat} {S : Sto} {d : D} {l m ks js : List Nat} {r : Rows} {f g : Nat → Rat} {w : Str}
theorem dict_rows (hr : RowsOk r) : biD .dict [rowsD r] S = .ok (.dct (rowsL r)) S := by
  have e : biD .dict [rowsD r] S = (match pairsOf (r.map rowD) with
    | some m => if m.length ≤ line then pure (D.dct (dputs [] m)) else M.no
    | none => (M.no : M D)) S := rfl
  have hlen := hr.len
  have hl2 : (rowsL r).length ≤ line := by unfold rowsL; rw [List.length_map]; simp [line]; omega
  have hd : dputs [] (rowsL r) = rowsL r := by simpa [rowsL] using dputs_rows (r2 := r) (r1 := []) (by simpa using hr.nodup)
  rw [e, pairs_rows]
  simp only [if_pos hl2, hd]
  rfl
theorem ixF_rows (hr : RowsOk r) (hc : c ∈ places r) : ixF (.dct (rowsL r)) (pd c) S = .ok (whatAt r c).d S :=
  ixF_of (dget_rows hr.nodup hc)
theorem what_mem (hr : RowsOk r) (hc : c ∈ places r) : (c, whatAt r c) ∈ r := by
  obtain ⟨p, hp, rfl⟩ := List.mem_map.mp hc
  rw [whatAt_of hr.nodup hp]
  exact hp
def SafeOk (F : List D → M D) : Prop := ∀ (k : Nat) (r : Rows) (f : Nat → Rat) (c t : Nat) (s b : Rat) (S : Sto), k ≤ 1900 → RowsOk r → c ∈ places r → (∀ x ∈ places r, sz k (f x)) → sz k s → sz k b →
  F [claimD "safe" r c [qd s, qd b, pd t], tabD (places r) f] S = .ok (.bl (safeB r f c s b t)) S
theorem safe_ok (hE : EndOk (Φ.fn 21)) (hB : BelowOk (Φ.fn 9)) (hS : StretchOk (Φ.fn 68)) : SafeOk (g_shows_safe Φ) := by
  intro k r f c t s b S hk hr hc hf hs hb
  have e1 := dict_rows (S := S) hr
  have e2 := ixF_rows (S := S) hr hc
  have hm := what_mem hr hc
  have e3 := end_ok hE (hr.ne _ hm) S
  have e4 := hB k s b S (by omega) hs hb
  have e5 := hB k (f c) s S (by omega) (hf c hc) hs
  have e6 : ixF (tabD (places r) f) (pd c) S = .ok (qd (f c)) S := ixF_tab hc
  unfold g_shows_safe p_shows_safe claimD safeB
  cases ew : whatAt r c with
  | num q =>
    rw [ew] at e2 e3
    simp [runB_run, e1, e2, e3, isNum]
  | arr l =>
    have hm' : (c, What.arr l) ∈ r := by rw [← ew]; exact hm
    rw [ew] at e2 e3
    obtain ⟨k1, k2, k3⟩ := kids_pre hr hm' rfl
    have e7 : cmpD .nin (pd t) (What.arr l).d S = .ok (.bl (!decide (t ∈ l))) S := c_ninT
    by_cases ht : t ∈ l
    · by_cases h1 : s < b
      · simp [runB_run, e1, e2, e3, isNum, e7, ht, e4, h1]
      · by_cases h2 : f c < s
        · have e8 := hS k l (places r) f s t S hk k1 k2 (fun x hx => ⟨k3 x hx, hf x (k3 x hx)⟩) ht hs
          have zm := sz_maxL (f := f) k1 fun x hx => hf x (k3 x hx)
          have z1 := sz_sub zm hs
          have z2 := sz_sub hs (hf t (k3 t ht))
          have e9 := hB (2 * k + 1) (maxL l f - s) b S (by omega) z1 (hb.mono (by omega))
          have e10 := hB (2 * k + 1) b (s - f t) S (by omega) (hb.mono (by omega)) z2
          simp [runB_run, e1, e2, e3, isNum, e7, ht, e4, e5, e6, h1, h2, e8, e9, e10]
          by_cases h3 : maxL l f - s < b <;> simp [h3, e10]
        · simp [runB_run, e1, e2, e3, isNum, e7, ht, e4, e5, e6, h1, h2]
    · simp [runB_run, e1, e2, e3, isNum, e7, ht]
/-! ### accepts -/
structure AccOk (F : List D → M D) : Prop where
  needs : ∀ (r : Rows) (f : Nat → Rat) (c : Nat) (q : Rat) (S : Sto), RowsOk r → c ∈ places r → (∀ x ∈ places r, sz 1900 (f x)) → sz 1900 q → F [claimD "needs" r c [qd q], papD r f] S = .ok (.bl (tabB r f && decide (f c = q))) S
  above : ∀ (r : Rows) (f : Nat → Rat) (c : Nat) (q : Rat) (S : Sto), RowsOk r → c ∈ places r → (∀ x ∈ places r, sz 1900 (f x)) → sz 1900 q → F [claimD "above" r c [qd q], papD r f] S = .ok (.bl (tabB r f && decide (q < f c))) S
  below : ∀ (r : Rows) (f : Nat → Rat) (c : Nat) (q : Rat) (S : Sto), RowsOk r → c ∈ places r → (∀ x ∈ places r, sz 1900 (f x)) → sz 1900 q → F [claimD "below" r c [qd q], papD r f] S = .ok (.bl (tabB r f && decide (f c < q))) S
  within : ∀ (r : Rows) (c n : Nat) (q : Rat) (fs : List (Nat → Rat)) (S : Sto), RowsOk r → c ∈ places r → n ≤ 60 → sz 1900 q → (∀ f ∈ fs, ∀ c ∈ places r, sz 1900 (f c)) → (∀ i, i ≤ n + 1 → ∀ c ∈ places r, sz 1900 (iterQ r 1 i c)) →
    F [claimD "within" r c [.int n, qd q], .tup (fs.map (papD r))] S = .ok (.bl (wthB r c n q fs)) S
  safe : ∀ (r : Rows) (f : Nat → Rat) (c t : Nat) (s b : Rat) (S : Sto), RowsOk r → c ∈ places r → t ∈ places r → (∀ x ∈ places r, sz 1900 (f x)) → sz 1900 s → sz 1900 b → 0 ≤ s → s ≤ 1 → 0 ≤ b → b ≤ 1 →
    F [claimD "safe" r c [qd s, qd b, pd t], papD r f] S = .ok (.bl (tabB r f && safeB r f c s b t)) S
theorem acc_ok (hC : ClaimOk (Φ.fn 99)) (hI : TableInOk (Φ.fn 100)) (hT : IsTableOk (Φ.fn 101)) (hW : WthOk (Φ.fn 102)) (hS : SafeOk (Φ.fn 103)) (hB : BelowOk (Φ.fn 9)) : AccOk (g_accepts Φ) := by
  have m1 : ∀ {q : Rat}, sz 1900 q → sz 8000 q := fun h => h.mono (by decide)
  have n1 : ("needs" : Str) ≠ "within" := by decide
  have n2 : ("needs" : Str) ≠ "safe" := by decide
  have n3 : ("above" : Str) ≠ "within" := by decide
  have n4 : ("above" : Str) ≠ "safe" := by decide
  have n5 : ("above" : Str) ≠ "needs" := by decide
  have n6 : ("below" : Str) ≠ "within" := by decide
  have n7 : ("below" : Str) ≠ "safe" := by decide
  have n8 : ("below" : Str) ≠ "needs" := by decide
  have n9 : ("below" : Str) ≠ "above" := by decide
  have hn : ∀ l : List (Ky × D), D.isNon (.dct l) = false := fun _ => rfl
  refine ⟨fun r f c q S hr hc hf hq => ?_, fun r f c q S hr hc hf hq => ?_, fun r f c q S hr hc hf hq => ?_, fun r c n q fs S hr hc hn' hq hf hi => ?_, fun r f c t s b S hr hc ht hf hs hb s0 s1 b0 b1 => ?_⟩
  · have e1 := hC.1 "needs" r c q S (.inl rfl) hr hc (m1 hq)
    have e2 := hI r f S hr fun x hx => m1 (hf x hx)
    have e3 := hT 1900 r f S (by decide) hr hf
    have e4 : ixF (tabD (places r) f) (pd c) S = .ok (qd (f c)) S := ixF_tab hc
    have hn' : D.isNon (tabD (places r) f) = false := rfl
    unfold g_accepts p_accepts
    unfold claimD at e1 ⊢
    cases z : tabB r f <;> rw [z] at e3 <;> simp [runB_run, e1, n1, n2, e2, hn', e3, e4, c_eqQ]
  · have e1 := hC.1 "above" r c q S (.inr (.inl rfl)) hr hc (m1 hq)
    have e2 := hI r f S hr fun x hx => m1 (hf x hx)
    have e3 := hT 1900 r f S (by decide) hr hf
    have e4 : ixF (tabD (places r) f) (pd c) S = .ok (qd (f c)) S := ixF_tab hc
    have e5 := hB 1900 q (f c) S (by decide) hq (hf c hc)
    have hn' : D.isNon (tabD (places r) f) = false := rfl
    unfold g_accepts p_accepts
    unfold claimD at e1 ⊢
    cases z : tabB r f <;> rw [z] at e3 <;> simp [runB_run, e1, n3, n4, n5, e2, hn', e3, e4, e5]
  · have e1 := hC.1 "below" r c q S (.inr (.inr rfl)) hr hc (m1 hq)
    have e2 := hI r f S hr fun x hx => m1 (hf x hx)
    have e3 := hT 1900 r f S (by decide) hr hf
    have e4 : ixF (tabD (places r) f) (pd c) S = .ok (qd (f c)) S := ixF_tab hc
    have e5 := hB 1900 (f c) q S (by decide) (hf c hc) hq
    have hn' : D.isNon (tabD (places r) f) = false := rfl
    unfold g_accepts p_accepts
    unfold claimD at e1 ⊢
    cases z : tabB r f <;> rw [z] at e3 <;> simp [runB_run, e1, n6, n7, n8, n9, e2, hn', e3, e4, e5]
  · have e1 := hC.2.1 r c n q S hr hc hn' (m1 hq)
    have e2 := hW 1900 r c n q fs S (by decide) hr hc (fun f h c hc => m1 (hf f h c hc)) hi
    unfold g_accepts p_accepts
    unfold claimD at e1 e2 ⊢
    simp [runB_run, e1, e2]
  · have e1 := hC.2.2 r c t s b S hr hc ht (m1 hs) (m1 hb) s0 s1 b0 b1
    have e2 := hI r f S hr fun x hx => m1 (hf x hx)
    have e3 := hT 1900 r f S (by decide) hr hf
    have e4 := hS 1900 r f c t s b S (by decide) hr hc hf hs hb
    have hn' : D.isNon (tabD (places r) f) = false := rfl
    unfold g_accepts p_accepts
    unfold claimD at e1 e4 ⊢
    cases z : tabB r f <;> rw [z] at e3 <;> simp [runB_run, e1, ws_ne, e2, hn', e3, e4]
end
end RF
end
section
set_option linter.all false
set_option maxRecDepth 100000
set_option maxHeartbeats 4000000
set_option autoImplicit false
/-! RfHelp: the helpers that the laws share: urns, own fractions, letters, parts. -/
namespace RF
open PySem (Str)
def PU : Int := 2147482873
/-- the n-th thing of the store is an urn -/
def UrnAt (S : Sto) (n : Nat) : Prop := ∃ a b : Int, S[n]? = some (.lst [.int a, .int b]) ∧ 0 ≤ a ∧ 0 ≤ b ∧ b < PU
/-- only the urn may be another one -/
def Moves (n : Nat) (S S' : Sto) : Prop := UrnAt S' n ∧ S'.length = S.length ∧ ∀ m, m ≠ n → S'[m]? = S[m]?
def DipOk (f : List D → M D) : Prop := ∀ (S : Sto) (n k : Nat), UrnAt S n → 0 < k → k < 1073741824 → ∃ (d : Nat) (S' : Sto), d < k ∧ Moves n S S' ∧ f [.obj n, .int k] S = .ok (.int d) S'
section
variable {Φ : Fns} {k c e t n : Nat} {a b q s v : Rat} {S S1 S2 : Sto} {d o : D} {l m ks js : List Nat} {i j : Int} {δ : En}
theorem Moves.trans (h : Moves n S S1) (g : Moves n S1 S2) : Moves n S S2 := ⟨g.1, g.2.1.trans h.2.1, fun m hm => (g.2.2 m hm).trans (h.2.2 m hm)⟩
theorem Moves.refl (h : UrnAt S n) : Moves n S S := ⟨h, rfl, fun _ _ => rfl⟩
def obTX (Φ : Fns) (i : Nat) (k : X) (j : Nat) (δ : En) : D → M Fl
  | .tup [a, b] => do
      let o ← getV δ i
      let q ← denX Φ k δ
      match ← setObF o q a δ with
      | .nx δ' => do pure (.nx (← M.ofO (bindT (.nm j) b δ')))
      | _ => M.no
  | _ => M.no
theorem s_obT {N i j : Nat} {k e : X} : denS Φ N (.obT i k j e) δ S = (denX Φ e δ S).go (obTX Φ i k j δ) := by
  refine bind_go.trans (congrArg (Out.go _) (funext fun d => funext fun s => ?_))
  match d with
  | .tup [a, b] => rfl
  | .tup [] | .tup [_] | .tup (_ :: _ :: _ :: _) | .non | .bl _ | .int _ | .str _ | .lst _ | .dct _ | .ins _ _ | .obj _ | .frz _ => rfl
theorem obTX_run {i j : Nat} {k : X} {a b o q : D} {δ' δ'' : En} (h1 : getV δ i S = .ok o S) (h2 : denX Φ k δ S = .ok q S) (h3 : setObF o q a δ S = .ok (.nx δ') S1) (h4 : bindT (.nm j) b δ' = some δ'') : obTX Φ i k j δ (.tup [a, b]) S = .ok (.nx δ'') S1 := by
  show (getV δ i >>= fun o => denX Φ k δ >>= fun q => setObF o q a δ >>= fun fl => (match fl with
      | .nx δ' => (M.ofO (bindT (.nm j) b δ') >>= fun δ'' => pure (.nx δ'') : M Fl)
      | _ => M.no)) S = _
  simp only [M.bind_run, h1, h2, h3, h4]
  rfl
theorem setOb_run {l : List D} {m : Nat} (h : S[n]? = some (.lst l)) (hi : ixOf l.length i = some m) : setObF (.obj n) (.int i) d δ S = .ok (.nx δ) (S.set n (.lst (l.set m d))) := by
  show (match S[n]?, (D.int i) with
    | some (.lst l), .int j => (match ixOf l.length j with
      | some m => (.ok (.nx δ) (S.set n (.lst (l.set m d))) : Out Fl)
      | none => .no)
    | some (.dct l), q => (match keyOf q with
      | some m => if l.length < line then .ok (.nx δ) (S.set n (.dct (dput l m d))) else .no
      | none => .no)
    | _, _ => .no) = _
  rw [h]
  dsimp only
  rw [hi]
theorem ixF_obj {l : List D} {x : D} (h : S[n]? = some (.lst l)) (hx : atI l i = some x) : ixF (.obj n) (.int i) S = .ok x S := ixF_of (by
  show (match S[n]? with
    | some (.lst l) => atI l i
    | _ => none) = _
  rw [h]
  exact hx)
theorem mul_small {x y : Int} (hx : x.natAbs < 2 ^ 100) (hy : y.natAbs < 2 ^ 100) : mulOk x y = true := mulOk_of hx hy (by decide) (by decide)
theorem dip_ok : DipOk (h_law_dip Φ) := by
  intro S n k ⟨a, b, hS, ha, hb, hb2⟩ hk hk2
  have hn : n < S.length := (List.getElem?_eq_some_iff.mp hS).1
  have x0 : ixF (.obj n) (.int 0) S = .ok (.int a) S := ixF_obj hS rfl
  have x1 : ixF (.obj n) (.int 1) S = .ok (.int b) S := ixF_obj hS rfl
  unfold h_law_dip q_law_dip
  rw [runB_run]
  simp only [List.map_cons, List.map_nil, List.length_cons, List.length_nil, List.cons_append, List.nil_append, show List.replicate (3 - (0 + 1 + 1)) (none : Option D) = [none] from rfl]
  by_cases h0 : 0 < a
  · have hd : denX Φ (.bi .divmod [(.ix (.var 0) (.cst (.int 0))), (.var 1)]) [some (.obj n), some (.int k), none] S = .ok (.tup [.int (a / k), .int (a % k)]) S := by
      have hk3 : (0 : Int) < k ∧ (k : Int) < 1073741824 := by omega
      simp [x0, hk, hk2]
      omega
    have hset := setOb_run (S := S) (n := n) (i := 0) (l := [.int a, .int b]) (d := .int (a / k)) (δ := [some (.obj n), some (.int k), none]) (m := 0) hS rfl
    have hT := obTX_run (Φ := Φ) (i := 0) (j := 2) (k := .cst (.int 0)) (a := .int (a / k)) (b := .int (a % k)) (S := S) (δ'' := [some (.obj n), some (.int k), some (.int (a % k))]) (by simp) rfl hset (by simp)
    refine ⟨(a % k).toNat, S.set n (.lst ([D.int a, .int b].set 0 (.int (a / k)))), ?_, ⟨⟨a / k, b, by simp [hn], Int.ediv_nonneg ha (by omega), hb, hb2⟩, by simp, fun m hm => List.getElem?_set_ne (Ne.symm hm)⟩, ?_⟩
    · have := Int.emod_lt_of_pos a (show (0 : Int) < k by omega)
      have := Int.emod_nonneg a (show (k : Int) ≠ 0 by omega)
      omega
    · have e1 : (((a % k).toNat : Nat) : Int) = a % k := by
        have := Int.emod_nonneg a (show (k : Int) ≠ 0 by omega)
        omega
      rw [e1]
      simp [x0, h0, s_obT, hd, hT, -r_bi]
  · have hm1 : mulOk b 64033 = true := mul_small (by unfold PU at hb2; omega) (by decide)
    have hset := setOb_run (S := S) (n := n) (i := 1) (l := [.int a, .int b]) (d := .int ((b * 64033 + 15013) % 2147482873)) (δ := [some (.obj n), some (.int k), none]) (m := 1) hS rfl
    have hp := Int.emod_lt_of_pos (b * 64033 + 15013) (show (0 : Int) < 2147482873 by decide)
    have hp0 := Int.emod_nonneg (b * 64033 + 15013) (show (2147482873 : Int) ≠ 0 by decide)
    have hS' : (S.set n (.lst ([D.int a, .int b].set 1 (.int ((b * 64033 + 15013) % 2147482873)))))[n]? = some (.lst [.int a, .int ((b * 64033 + 15013) % 2147482873)]) := by simp [hn]
    have x2 := ixF_obj (i := 1) (x := .int ((b * 64033 + 15013) % 2147482873)) hS' rfl
    refine ⟨(((b * 64033 + 15013) % 2147482873) / 907 % k).toNat, S.set n (.lst ([D.int a, .int b].set 1 (.int ((b * 64033 + 15013) % 2147482873)))), ?_, ⟨⟨a, _, hS', ha, hp0, hp⟩, by simp, fun m hm => List.getElem?_set_ne (Ne.symm hm)⟩, ?_⟩
    · have := Int.emod_lt_of_pos (((b * 64033 + 15013) % 2147482873) / 907) (show (0 : Int) < k by omega)
      have := Int.emod_nonneg (((b * 64033 + 15013) % 2147482873) / 907) (show (k : Int) ≠ 0 by omega)
      omega
    · have e1 : (((((b * 64033 + 15013) % 2147482873) / 907 % k).toNat : Nat) : Int) = ((b * 64033 + 15013) % 2147482873) / 907 % k := by
        have := Int.emod_nonneg (((b * 64033 + 15013) % 2147482873) / 907) (show (k : Int) ≠ 0 by omega)
        omega
      rw [e1]
      have hk3 : (0 : Int) < k := by omega
      have hd : divOk 907 = true := by decide +kernel
      simp only [List.set_cons_succ, List.set_cons_zero] at hset x2
      simp [x0, h0, x1, hm1, hset, x2, hd, hk, List.getElem?_cons]
/-! ### own fractions -/
def SharedOk (f : List D → M D) : Prop := ∀ (t : Int) (b : Nat) (S : Sto), b < 2 ^ 9000 → f [.int t, .int b] S = .ok (.int (Nat.gcd t.natAbs b)) S
theorem shared_ok : SharedOk (h_law_shared Φ) := by
  intro t b S h
  have e : (if t < 0 then -t else t) = (t.natAbs : Int) := by split <;> omega
  have e2 : (if (b : Int) < 0 then -(b : Int) else b) = (b : Int) := by split <;> omega
  have := gcd_loop Φ fuel t.natAbs b S (fuel_gt h)
  unfold h_law_shared q_law_shared
  simp [runB_run, e, e2, this]
theorem low2_ok (h : SharedOk (Φ.fn 2092)) : LowestOk (h_law_low2 Φ) := by
  intro t b S hb hb2
  have hg : 0 < Nat.gcd t.natAbs b := Nat.gcd_pos_of_pos_right _ hb
  have hd : divOk (Nat.gcd t.natAbs b : Nat) = true := divOk_of (by exact_mod_cast hg) (Nat.lt_of_le_of_lt (Nat.gcd_le_right _ hb) hb2)
  have hb0 : b ≠ 0 := by omega
  have e1 : (mkRat t b).num = t / (Nat.gcd t.natAbs b : Nat) := by rw [Rat.num_mkRat, if_neg hb0, Nat.gcd_comm]
  have e2 : (mkRat t b).den = b / Nat.gcd t.natAbs b := by rw [Rat.den_mkRat, if_neg hb0, Nat.gcd_comm]
  unfold h_law_low2 q_law_low2 qd
  rw [e1, e2]
  simp [runB_run, h t b S hb2, hd]
theorem plus2_ok (h : LowestOk (Φ.fn 2093)) : AddOk (· + ·) (h_law_plus2 Φ) := by
  intro k a b S hk ha hb
  have h1 := ha.mul1 hb (by omega)
  have h2 := hb.mul1 ha (by omega)
  have h3 := ha.mul2 hb (by omega)
  have h4 := h (a.num * b.den + b.num * a.den) (a.den * b.den) S (Nat.mul_pos a.den_pos b.den_pos) (ha.den hb hk)
  rw [← den_mul] at h4
  dsimp only
  rw [Rat.add_def', ← h4]
  unfold h_law_plus2 q_law_plus2 qd
  simp [runB_run, h1, h2, h3]
  cases Φ.fn 2093 [.int (a.num * b.den + b.num * a.den), .int (a.den * b.den)] S <;> rfl
theorem minus2_ok (h : LowestOk (Φ.fn 2093)) : AddOk (· - ·) (h_law_minus2 Φ) := by
  intro k a b S hk ha hb
  have h1 := ha.mul1 hb (by omega)
  have h2 := hb.mul1 ha (by omega)
  have h3 := ha.mul2 hb (by omega)
  have h4 := h (a.num * b.den - b.num * a.den) (a.den * b.den) S (Nat.mul_pos a.den_pos b.den_pos) (ha.den hb hk)
  rw [← den_mul] at h4
  dsimp only
  rw [Rat.sub_def', ← h4]
  unfold h_law_minus2 q_law_minus2 qd
  simp [runB_run, h1, h2, h3]
  cases Φ.fn 2093 [.int (a.num * b.den - b.num * a.den), .int (a.den * b.den)] S <;> rfl
theorem isless_ok : BelowOk (h_law_is_less Φ) := by
  intro k a b S hk ha hb
  have h1 := ha.mul1 hb hk
  have h2 := hb.mul1 ha hk
  have e : decide (a < b) = decide (a.num * b.den < b.num * a.den) := by rw [decide_eq_decide]; exact Rat.lt_iff a b
  rw [e]
  unfold h_law_is_less q_law_is_less qd
  simp [runB_run, h1, h2]
/-- the least one, the greatest one of some -/
def foldQ (op : Rat → Rat → Rat) : List Rat → Rat
  | [] => 0
  | q :: l => l.foldl op q
def FoldOk (op : Rat → Rat → Rat) (F : List D → M D) : Prop := ∀ (k : Nat) (l : List Rat) (S : Sto), k ≤ 400000 → l ≠ [] → (∀ x ∈ l, sz k x) → F [.lst (l.map qd)] S = .ok (qd (foldQ op l)) S
theorem lmin_loop {C : X} {op : Rat → Rat → Rat} {L : Option D} (hk : k ≤ 400000) (hop : ∀ {a b : Rat}, sz k a → sz k b → sz k (op a b)) (hC : ∀ (q x : Rat) (S : Sto), sz k q → sz k x → denX Φ (.ite C (.var 2) (.var 1)) [L, some (qd q), some (qd x)] S = .ok (qd (op q x)) S) : ∀ (l : List Rat) (q : Rat) (o : Option D), (∀ x ∈ l, sz k x) → sz k q →
    ∃ o', forL (fF Φ fuel (.nm 2) [(.asg (.nm 1) (.ite C (.var 2) (.var 1)))]) (l.map qd) [L, some (qd q), o] S = .ok (.nx [L, some (qd (l.foldl op q)), o']) S
  | [], q, o, _, _ => ⟨o, rfl⟩
  | x :: l, q, o, hl, hq => by
    have hx := hl x (by simp)
    obtain ⟨o', ih⟩ := lmin_loop hk hop hC l (op q x) (some (qd x)) (fun y hy => hl y (List.mem_cons_of_mem _ hy)) (hop hq hx)
    refine ⟨o', ?_⟩
    have h1 := hC q x S hq hx
    rw [List.map_cons, for_cons]
    simp [fF_run, h1, -r_ite]
    exact ih
theorem lmin_ok (h : BelowOk (Φ.fn 2098)) : FoldOk minQ (h_law_min Φ) := by
  intro k l S hk hl hs
  cases l with
  | nil => exact absurd rfl hl
  | cons q l =>
    obtain ⟨o', e⟩ := lmin_loop (Φ := Φ) (S := S) (C := .call 2098 [(.var 2), (.var 1)]) (op := minQ) (L := some (.lst ((q :: l).map qd))) hk (fun a b => sz_min a b) (fun q x S hq hx => by
      have e := h k x q S hk hx hq
      unfold minQ
      by_cases z : x < q <;> simp [e, z]) (q :: l) q none hs (hs q (by simp))
    have e2 : (q :: l).foldl minQ q = l.foldl minQ q := by
      rw [List.foldl_cons]
      congr 1
      unfold minQ
      split <;> rfl
    rw [e2] at e
    unfold h_law_min q_law_min
    simp only [List.map_cons] at e ⊢
    simp [runB_run, itemsOf, e, foldQ]
theorem lmax_ok (h : BelowOk (Φ.fn 2098)) : FoldOk maxQ (h_law_max Φ) := by
  intro k l S hk hl hs
  cases l with
  | nil => exact absurd rfl hl
  | cons q l =>
    obtain ⟨o', e⟩ := lmin_loop (Φ := Φ) (S := S) (C := .call 2098 [(.var 1), (.var 2)]) (op := maxQ) (L := some (.lst ((q :: l).map qd))) hk (fun a b => sz_max a b) (fun q x S hq hx => by
      have e := h k q x S hk hq hx
      unfold maxQ
      by_cases z : q < x <;> simp [e, z]) (q :: l) q none hs (hs q (by simp))
    have e2 : (q :: l).foldl maxQ q = l.foldl maxQ q := by
      rw [List.foldl_cons]
      congr 1
      unfold maxQ
      split <;> rfl
    rw [e2] at e
    unfold h_law_max q_law_max
    simp only [List.map_cons] at e ⊢
    simp [runB_run, itemsOf, e, foldQ]
def midQ (l : List Rat) : Rat := (foldQ minQ l + foldQ maxQ l) / 2
def MidOk (F : List D → M D) : Prop := ∀ (k : Nat) (l : List Rat) (S : Sto), k ≤ 1900 → l ≠ [] → (∀ x ∈ l, sz k x) → F [.lst (l.map qd)] S = .ok (qd (midQ l)) S
theorem sz_fold {op : Rat → Rat → Rat} (hop : ∀ a b, op a b = a ∨ op a b = b) {l : List Rat} (hl : l ≠ []) (hs : ∀ x ∈ l, sz k x) : sz k (foldQ op l) := by
  cases l with
  | nil => exact absurd rfl hl
  | cons q l => exact hs _ (fold_mem hop l q)
theorem low_half (h : LowestOk (Φ.fn n)) (hk : k ≤ 4000) (ha : sz k a) : Φ.fn n [.int a.num, .int (2 * a.den : Nat)] S = .ok (qd (a / 2)) S := by
  have h3 : 2 * a.den < 2 ^ 9000 := by
    have : 2 * a.den < 2 * 2 ^ k := by have := ha.2; omega
    refine Nat.lt_of_lt_of_le this ?_
    rw [Nat.mul_comm, ← Nat.pow_succ]
    exact Nat.pow_le_pow_right (by decide) (by omega)
  have h4 := h a.num (2 * a.den) S (Nat.mul_pos (by decide) a.den_pos) h3
  rw [half_eq]
  exact h4
theorem mid_ok (h1 : FoldOk minQ (Φ.fn 2099)) (h2 : FoldOk maxQ (Φ.fn 2100)) (h3 : AddOk (· + ·) (Φ.fn 2097)) (h4 : LowestOk (Φ.fn 2093)) : MidOk (h_law_mid Φ) := by
  intro k l S hk hl hs
  have e1 := h1 k l S (by omega) hl hs
  have e2 := h2 k l S (by omega) hl hs
  have z1 := sz_fold minQ_or hl hs
  have z2 := sz_fold maxQ_or hl hs
  have e3 := h3 k _ _ S (by omega) z1 z2
  have z3 := sz_add z1 z2
  have e4 := low_half (S := S) h4 (by omega) z3
  have e5 : ∀ q : Rat, ixF (qd q) (.int 0) S = .ok (.int q.num) S := fun q => ixF_T0
  have e6 : ∀ q : Rat, ixF (qd q) (.int 1) S = .ok (.int q.den) S := fun q => ixF_T1
  have e7 : mulOk 2 ((foldQ minQ l + foldQ maxQ l).den : Int) = true := mulOk_of (k := 4000) (by
      have : (2 : Nat) ^ 2 ≤ 2 ^ 4000 := Nat.pow_le_pow_right (by decide) (by decide)
      show 2 < 2 ^ 4000
      omega) (by rw [den_abs]; exact Nat.lt_of_lt_of_le z3.2 (Nat.pow_le_pow_right (by decide) (by omega))) (by decide) (by decide)
  have e8 : ((2 * (foldQ minQ l + foldQ maxQ l).den : Nat) : Int) = 2 * ((foldQ minQ l + foldQ maxQ l).den : Int) := by simp
  rw [e8] at e4
  unfold h_law_mid q_law_mid midQ
  simp [runB_run, e1, e2, e3, e5, e6, e7, e4]
end
end RF
end
section
set_option linter.all false
set_option maxRecDepth 100000
set_option maxHeartbeats 4000000
set_option autoImplicit false
/-! RfHelp2: parts, letters, urns. -/
namespace RF
open PySem (Str)
def isPart (q : Rat) : Prop := (0 ≤ q ∧ q ≤ 1) ∧ q.den ≤ MB
def DrawsPart (f : List D → M D) : Prop := ∀ (S : Sto) (n : Nat), UrnAt S n → ∃ (q : Rat) (S' : Sto), isPart q ∧ Moves n S S' ∧ f [.obj n] S = .ok (qd q) S'
def txt (l : List Nat) : Str := ⟨l.toArray⟩
def DrawsLetters (f : List D → M D) : Prop := ∀ (S : Sto) (n many : Nat), UrnAt S n → many ≤ 8 → ∃ (l : List Nat) (S' : Sto), l.length = many ∧ asc l = true ∧ (∀ c ∈ l, isLet c = true) ∧ Moves n S S' ∧ f [.obj n, .int many] S = .ok (.str (txt l)) S'
def NewUrn (f : List D → M D) : Prop := ∀ (ns : List Int) (t : Nat) (S : Sto), ns.length ≤ 63 → t ≤ 100 → ∃ a b : Int, 0 ≤ a ∧ 0 ≤ b ∧ b < PU ∧ f [.frz (ns.map D.int), .int t] S = .ok (.lst [.int a, .int b]) S
section
variable {Φ : Fns} {k c e t n : Nat} {a b q s v : Rat} {S S1 S2 : Sto} {d o : D} {l m ks js : List Nat} {i j : Int} {δ : En}
theorem part_mk {t : Nat} {b : Nat} (h0 : 0 < b) (ht : t ≤ b) (hb : b ≤ MB) : isPart (mkRat t b) := by
  have hb0 : b ≠ 0 := by omega
  have e1 : (mkRat t b).num = ((t / Nat.gcd b t : Nat) : Int) := by
    rw [Rat.num_mkRat, if_neg hb0]
    rfl
  have e2 : (mkRat t b).den = b / Nat.gcd b t := by
    rw [Rat.den_mkRat, if_neg hb0]
    rfl
  refine ⟨⟨?_, ?_⟩, ?_⟩
  · rw [← Rat.num_nonneg, e1]
    exact Int.natCast_nonneg _
  · rw [Rat.le_iff, e1, e2]
    have := Nat.div_le_div_right (c := Nat.gcd b t) ht
    show ((t / Nat.gcd b t : Nat) : Int) * ((1 : Nat) : Int) ≤ 1 * ((b / Nat.gcd b t : Nat) : Int)
    omega
  · rw [e2]
    exact Nat.le_trans (Nat.div_le_self _ _) hb
theorem pow_run {x y : Int} (h : powOk x y = true) : binD .pow (.int x) (.int y) S = .ok (.int (x ^ y.toNat)) S := by rw [b_pow, if_pos h]
theorem p12 : binD .pow (.int 10) (.int 12) S = .ok (.int 1000000000000) S := by rw [pow_run (by decide +kernel)]; rfl
theorem p5 : binD .pow (.int 10) (.int 5) S = .ok (.int 100000) S := by rw [pow_run (by decide +kernel)]; rfl
theorem p9 : binD .pow (.int 10) (.int 9) S = .ok (.int 1000000000) S := by rw [pow_run (by decide +kernel)]; rfl
theorem p18 : binD .pow (.int 10) (.int 18) S = .ok (.int 1000000000000000000) S := by rw [pow_run (by decide +kernel)]; rfl
theorem part2_ok (hD : DipOk (Φ.fn 2085)) (hL : LowestOk (Φ.fn 2093)) : DrawsPart (h_law_part2 Φ) := by
  intro S n hS
  obtain ⟨w, S1, hw, m1, e1⟩ := hD S n 6 hS (by decide) (by decide)
  have e1' : Φ.fn 2085 [.obj n, .int 6] S = .ok (.int w) S1 := e1
  unfold h_law_part2 q_law_part2
  by_cases h3 : w < 3
  · have hq : ∃ q : Rat, isPart q ∧ ixF (.lst [.tup [.int 0, .int 1], .tup [.int 1, .int 1], .tup [.int 1, .int 2]]) (.int w) S1 = .ok (qd q) S1 := by
      rcases w with _ | _ | _ | w
      · exact ⟨0, ⟨⟨by decide +kernel, by decide +kernel⟩, by decide +kernel⟩, rfl⟩
      · exact ⟨1, ⟨⟨by decide +kernel, by decide +kernel⟩, by decide +kernel⟩, rfl⟩
      · exact ⟨(⟨1, 2, by decide, by decide⟩ : Rat), ⟨⟨by decide +kernel, by decide +kernel⟩, by decide +kernel⟩, rfl⟩
      · omega
    obtain ⟨q, hq, e2⟩ := hq
    have h3' : (w : Int) < 3 := by omega
    refine ⟨q, S1, hq, m1, ?_⟩
    simp [runB_run, e1', h3, h3', e2]
  · have h3' : ¬ (w : Int) < 3 := by omega
    -- the last step, from a bottom
    have fin : ∀ (b : Nat) (S2 : Sto), Moves n S S2 → 0 < b → b ≤ MB → ∃ (q : Rat) (S' : Sto), isPart q ∧ Moves n S S' ∧
        denS Φ fuel (.ret (some (.call 2093 [(.call 2085 [(.var 0), (.bin .add (.bi .min [(.var 2), (.bin .pow (.cst (.int 10)) (.cst (.int 5)))]) (.cst (.int 1)))]), (.var 2)]))) [some (.obj n), some (.int w), some (.int b)] S2 = .ok (.rt (qd q)) S' := by
      intro b S2 m2 hb0 hb
      have hk : (if (100000 : Int) < b then (100000 : Int) else b) + 1 = ((min b 100000 + 1 : Nat) : Int) := by split <;> omega
      obtain ⟨d, S3, hd, m3, e3⟩ := hD S2 n (min b 100000 + 1) m2.1 (by omega) (by omega)
      have e4 := hL d b S3 hb0 (Nat.lt_of_le_of_lt hb (by
        have : (2 : Nat) ^ 64 ≤ 2 ^ 9000 := Nat.pow_le_pow_right (by decide) (by decide)
        have : MB < 2 ^ 64 := by decide
        omega))
      refine ⟨mkRat d b, S3, part_mk hb0 (by omega) hb, m2.trans m3, ?_⟩
      simp [p5, -b_pow]
      rw [hk, e3]
      simp [e4]
    by_cases h5 : w = 5
    · obtain ⟨d, S2, hd, m2, e2⟩ := hD S1 n 5 m1.1 (by decide) (by decide)
      have e2' : Φ.fn 2085 [.obj n, .int 5] S1 = .ok (.int d) S2 := e2
      by_cases h0 : d = 0
      · obtain ⟨q, S3, hq, m3, e3⟩ := fin (10 ^ 12) S2 (m1.trans m2) (by decide) (by decide)
        refine ⟨q, S3, hq, m3, ?_⟩
        subst h5
        subst h0
        have e3' := e3
        simp only [show ((10 ^ 12 : Nat) : Int) = 1000000000000 from rfl, show ((5 : Nat) : Int) = 5 from rfl] at e3'
        simp [runB_run, e1', e2', p12, e3', -b_pow, -s_ret]
      · obtain ⟨d2, S3, hd2, m3, e3⟩ := hD S2 n 12 m2.1 (by decide) (by decide)
        have e3' : Φ.fn 2085 [.obj n, .int 12] S2 = .ok (.int d2) S3 := e3
        obtain ⟨q, S4, hq, m4, e4⟩ := fin (1 + d2) S3 ((m1.trans m2).trans m3) (by omega) (by unfold MB; omega)
        refine ⟨q, S4, hq, m4, ?_⟩
        subst h5
        have e4' := e4
        simp only [show ((1 + d2 : Nat) : Int) = 1 + (d2 : Int) by omega, show ((5 : Nat) : Int) = 5 from rfl] at e4'
        simp [runB_run, e1', e2', e3', h0, e4', -b_pow, -s_ret]
    · obtain ⟨d2, S3, hd2, m3, e3⟩ := hD S1 n 12 m1.1 (by decide) (by decide)
      have e3' : Φ.fn 2085 [.obj n, .int 12] S1 = .ok (.int d2) S3 := e3
      obtain ⟨q, S4, hq, m4, e4⟩ := fin (1 + d2) S3 (m1.trans m3) (by omega) (by unfold MB; omega)
      have h5' : ¬ (w : Int) = 5 := by omega
      refine ⟨q, S4, hq, m4, ?_⟩
      have e4' := e4
      simp only [show ((1 + d2 : Nat) : Int) = 1 + (d2 : Int) by omega] at e4'
      simp [runB_run, e1', h3, h3', h5', e3', e4', -b_pow, -s_ret]
/-! ### letters -/
theorem txt_app (l : List Nat) (c : Nat) : txt l ++ sgn c = txt (l ++ [c]) := by
  show (⟨l.toArray ++ #[c]⟩ : Str) = ⟨(l ++ [c]).toArray⟩
  simp
theorem txt_len (l : List Nat) : (txt l).length = l.length := by
  show l.toArray.size = _
  simp
theorem letters_at {i : Nat} (h : i < 26) : ixF (.str LETTERS) (.int i) S = .ok (pd (97 + i)) S := by
  have hl : LETTERS.cps.toList = (List.range 26).map (· + 97) := by decide +kernel
  have h1 : LETTERS.length ≤ line := by decide +kernel
  refine ixF_of ?_
  show (if LETTERS.length ≤ line then (atI LETTERS.cps.toList i).map (fun c => D.str (sgn c)) else none) = _
  rw [if_pos h1, hl, atI_map (· + 97) (List.range 26) i (x := i) (by simp [h])]
  simp [pd, Nat.add_comm]
def bodyLt : List RF.S := [(.asg (.nm 2) (.bin .add (.var 2) (.ix (.cst (.str "abcdefghijklmnopqrstuvwxyz")) (.var 3)))), (.asg (.nm 3) (.bin .add (.bin .add (.var 3) (.cst (.int 1))) (.call 2085 [(.var 0), (.cst (.int 3))])))]
theorem letters_loop (hD : DipOk (Φ.fn 2085)) {A : Option D} {n : Nat} : ∀ (m j : Nat) (l : List Nat) (at_ : Nat) (o4 : Option D) (S : Sto), UrnAt S n → j + m ≤ 8 → l.length = j → at_ ≤ 2 + 3 * j → l.Pairwise (· < ·) → (∀ c ∈ l, 97 ≤ c ∧ c < 97 + at_) →
    ∃ (l' : List Nat) (o3 o4' : Option D) (S' : Sto), Moves n S S' ∧ l'.length = j + m ∧ l'.Pairwise (· < ·) ∧ (∀ c ∈ l', isLet c = true) ∧
      forL (fF Φ fuel (.nm 4) bodyLt) ((List.range' j m).map fun i : Nat => D.int (i : Int)) [some (.obj n), A, some (.str (txt l)), some (.int at_), o4] S = .ok (.nx [some (.obj n), A, some (.str (txt l')), o3, o4']) S'
  | 0, j, l, at_, o4, S, hS, hj, hl, ha, hp, hc => ⟨l, some (.int at_), o4, S, Moves.refl hS, by omega, hp, fun c h => by
      have := hc c h
      simp [isLet]
      omega, rfl⟩
  | m + 1, j, l, at_, o4, S, hS, hj, hl, ha, hp, hc => by
    obtain ⟨d, S1, hd, m1, e1⟩ := hD S n 3 hS (by decide) (by decide)
    have e1' : Φ.fn 2085 [.obj n, .int 3] S = .ok (.int d) S1 := e1
    have e2 := letters_at (S := S) (i := at_) (by omega)
    have hp' : (l ++ [97 + at_]).Pairwise (· < ·) := by
      rw [List.pairwise_append]
      exact ⟨hp, by simp, fun x hx y hy => by
        have : y = 97 + at_ := by simpa using hy
        subst this
        exact (hc x hx).2⟩
    obtain ⟨l', o3, o4', S', m2, h1, h2, h3, h4⟩ := letters_loop (A := A) hD m (j + 1) (l ++ [97 + at_]) (at_ + 1 + d) (some (.int j)) S1 m1.1 (by omega) (by simp [hl]) (by omega) hp' (fun c h => by
      rcases List.mem_append.mp h with z | z
      · have := hc c z; omega
      · have : c = 97 + at_ := by simpa using z
        omega)
    refine ⟨l', o3, o4', S', m1.trans m2, by omega, h2, h3, ?_⟩
    rw [List.range'_succ, List.map_cons, for_cons]
    have hlen : (txt l).length + (sgn (97 + at_)).length ≤ line := by rw [txt_len, sgn_len]; simp [line]; omega
    have e5 : binD .add (.str (txt l)) (pd (97 + at_)) S = .ok (.str (txt (l ++ [97 + at_]))) S := by
      unfold pd
      rw [b_addS, if_pos hlen, txt_app]
    have hb : fF Φ fuel (.nm 4) bodyLt (D.int (j : Int)) [some (.obj n), A, some (.str (txt l)), some (.int at_), o4] S = .ok (.nx [some (.obj n), A, some (.str (txt (l ++ [97 + at_]))), some (.int ((at_ + 1 + d : Nat) : Int)), some (.int j)]) S1 := by
      have e2' : ixF (.str "abcdefghijklmnopqrstuvwxyz") (.int at_) S = .ok (pd (97 + at_)) S := e2
      have e6 : ((at_ + 1 + d : Nat) : Int) = (at_ : Int) + 1 + d := by omega
      rw [e6]
      unfold bodyLt
      simp [fF_run, e2', e5, e1']
    rw [hb, go_ok]
    exact h4
theorem letters_ok (hD : DipOk (Φ.fn 2085)) : DrawsLetters (h_law_letters Φ) := by
  intro S n many hS hm
  obtain ⟨d, S1, hd, m1, e1⟩ := hD S n 3 hS (by decide) (by decide)
  have e1' : Φ.fn 2085 [.obj n, .int 3] S = .ok (.int d) S1 := e1
  obtain ⟨l', o3, o4', S', m2, h1, h2, h3, h4⟩ := letters_loop (A := some (.int many)) hD many 0 [] d none S1 m1.1 (by omega) rfl (by omega) .nil (fun c h => nomatch h)
  refine ⟨l', S', by omega, pw_asc h2, h3, m1.trans m2, ?_⟩
  have e0 : q_law_letters = [(.par [2, 3] [(.cst (.str "")), (.call 2085 [(.var 0), (.cst (.int 3))])]), (.forr (.nm 4) .range1 [(.var 1)] bodyLt), (.ret (some (.var 2)))] := rfl
  have e2 : itemsOf .range1 [.int (many : Int)] = some ((List.range' 0 many).map fun i : Nat => D.int (i : Int)) := items_rangeN (by omega)
  have e3 : (D.str "") = .str (txt []) := rfl
  rw [← e3] at h4
  unfold h_law_letters
  rw [e0]
  simp [runB_run, e1', e2, h4]
/-! ### a new urn -/
def bodyU : List RF.S := [(.asg (.nm 3) (.bin .mod (.bi .int [(.bin .add (.bin .add (.bin .mul (.var 3) (.cst (.int 41011))) (.bin .mod (.bi .int [(.var 4)]) (.cst (.int 2147482873)))) (.cst (.int 53)))]) (.cst (.int 2147482873))))]
theorem urn_loop {A B C : Option D} : ∀ (l : List Int) (x : Int) (o4 : Option D) (S : Sto), x.natAbs < 2 ^ 40 →
    ∃ (y : Int) (o4' : Option D), (l ≠ [] → 0 ≤ y ∧ y < PU) ∧ forL (fF Φ fuel (.nm 4) bodyU) (l.map D.int) [A, B, C, some (.int x), o4] S = .ok (.nx [A, B, C, some (.int y), o4']) S
  | [], x, o4, S, _ => ⟨x, o4, fun h => absurd rfl h, rfl⟩
  | z :: l, x, o4, S, hx => by
    have p1 := Int.emod_nonneg (x * 41011 + z % 2147482873 + 53) (show (2147482873 : Int) ≠ 0 by decide)
    have p2 := Int.emod_lt_of_pos (x * 41011 + z % 2147482873 + 53) (show (0 : Int) < 2147482873 by decide)
    obtain ⟨y, o4', h1, h2⟩ := urn_loop (A := A) (B := B) (C := C) l ((x * 41011 + z % 2147482873 + 53) % 2147482873) (some (.int z)) S (by omega)
    have hm : mulOk x 41011 = true := mul_small (Nat.lt_of_lt_of_le hx (by decide)) (by decide)
    have hb : fF Φ fuel (.nm 4) bodyU (D.int z) [A, B, C, some (.int x), o4] S = .ok (.nx [A, B, C, some (.int ((x * 41011 + z % 2147482873 + 53) % 2147482873)), some (.int z)]) S := by
      unfold bodyU
      simp [fF_run, hm]
    by_cases hl : l = []
    · subst hl
      refine ⟨(x * 41011 + z % 2147482873 + 53) % 2147482873, some (.int z), fun _ => ⟨p1, p2⟩, ?_⟩
      rw [List.map_cons, for_cons, hb, go_ok]
      rfl
    · refine ⟨y, o4', fun _ => h1 hl, ?_⟩
      rw [List.map_cons, for_cons, hb, go_ok]
      exact h2
theorem urn_ok : NewUrn (h_law_urn Φ) := by
  intro ns t S hn ht
  have hc : ∃ c : Int, denX Φ (.ite (.cmp .lt (.var 1) (.bi .len [(.var 0)])) (.ix (.var 0) (.var 1)) (.bin .mul (.cst (.int 52027)) (.bin .add (.var 1) (.cst (.int 5))))) [some (.frz (ns.map D.int)), some (.int t), none, none, none] S = .ok (.int c) S := by
    by_cases h : t < ns.length
    · have e : ixF (.frz (ns.map D.int)) (.int t) S = .ok (.int ns[t]) S := ixF_of (atI_map D.int ns t (x := ns[t]) (by simp [h]))
      have h' : (t : Int) < ns.length := by omega
      exact ⟨ns[t], by simp [h, h', e]⟩
    · have h' : ¬ (t : Int) < ns.length := by omega
      have hm : mulOk 52027 ((t : Int) + 5) = true := mul_small (by decide) (by
        have : (2 : Nat) ^ 100 > 1000 := by decide
        omega)
      exact ⟨52027 * ((t : Int) + 5), by simp [h, h', hm]⟩
  obtain ⟨c, hc⟩ := hc
  have hm : mulOk 7027 (t : Int) = true := mul_small (by decide) (by
    have : (2 : Nat) ^ 100 > 1000 := by decide
    omega)
  obtain ⟨y, o4', h1, h2⟩ := urn_loop (Φ := Φ) (A := some (.frz (ns.map D.int))) (B := some (.int t)) (C := some (.int c)) (ns.take 5 ++ [c]) (31013 + 7027 * t) none S (by
    have : (2 : Nat) ^ 40 > 1000000 := by decide
    omega)
  have hy := h1 (by simp)
  have e0 : q_law_urn = [(.asg (.nm 2) (.ite (.cmp .lt (.var 1) (.bi .len [(.var 0)])) (.ix (.var 0) (.var 1)) (.bin .mul (.cst (.int 52027)) (.bin .add (.var 1) (.cst (.int 5)))))), (.asg (.nm 3) (.bin .add (.cst (.int 31013)) (.bin .mul (.cst (.int 7027)) (.var 1)))), (.forr (.nm 4) .seq [(.bin .add (.cut (.var 0) none (some (.cst (.int 5)))) (.lst [(.var 2)]))] bodyU), (.ret (some (.lst [(.ite (.or [(.cmp .lt (.var 2) (.cst (.int 0))), (.cmp .ge (.var 2) (.bin .pow (.cst (.int 10)) (.cst (.int 18))))]) (.bi .abs [(.var 2)]) (.cst (.int 0))), (.var 3)])))] := rfl
  have s2 : denXs Φ [.bin .add (.cut (.var 0) none (some (.cst (.int 5)))) (.lst [(.var 2)])] [some (.frz (ns.map D.int)), some (.int t), some (.int c), some (.int (31013 + 7027 * t)), none] S = .ok [.lst ((ns.take 5 ++ [c]).map D.int)] S := by
    have e1 : cutL (ns.map D.int) none (some 5) = (ns.take 5).map D.int := by
      unfold cutL cutIx
      simp only [List.drop_zero, Nat.sub_zero, List.length_map, show ¬ ((5 : Int) < 0) by decide, if_false, List.map_take]
      rw [show (5 : Int).toNat = 5 from rfl]
      by_cases h : 5 ≤ ns.length
      · rw [Nat.min_eq_left h]
      · rw [Nat.min_eq_right (by omega)]
        rw [List.take_of_length_le (by simp), List.take_of_length_le (by simp; omega)]
    have e2 : ((ns.take 5).map D.int).length + 1 ≤ line := by simp [line]; omega
    simp [cutD, e1]
    have e3 : min 5 ns.length + 1 ≤ line := by simpa using e2
    simp [e3]
  have h4 : itemsOf .seq [.lst ((ns.take 5 ++ [c]).map D.int)] = some ((ns.take 5 ++ [c]).map D.int) := rfl
  have s3 : denS Φ fuel (.forr (.nm 4) .seq [(.bin .add (.cut (.var 0) none (some (.cst (.int 5)))) (.lst [(.var 2)]))] bodyU) [some (.frz (ns.map D.int)), some (.int t), some (.int c), some (.int (31013 + 7027 * t)), none] S = .ok (.nx [some (.frz (ns.map D.int)), some (.int t), some (.int c), some (.int y), o4']) S := by
    rw [s_for, s2, go_ok, h4, ofO_some, go_ok]
    exact h2
  unfold h_law_urn
  rw [e0]
  by_cases h0 : c < 0 ∨ (1000000000000000000 : Int) ≤ c
  · refine ⟨if c < 0 then -c else c, y, by split <;> omega, hy.1, hy.2, ?_⟩
    by_cases h5 : c < 0
    · simp [runN_run, hc, hm, s3, h5, -s_for, -r_ite, -b_pow]
      simp [r_ite, h5]
    · have h6 : (1000000000000000000 : Int) ≤ c := by omega
      simp [runN_run, hc, hm, s3, h5, -s_for, -r_ite, -b_pow]
      simp [r_ite, h5, p18, h6, -b_pow]
  · have h5 : ¬ c < 0 := by omega
    have h6 : ¬ (1000000000000000000 : Int) ≤ c := by omega
    refine ⟨0, y, by omega, hy.1, hy.2, ?_⟩
    simp [runN_run, hc, hm, s3, -s_for, -r_ite, -b_pow]
    simp [r_ite, h5, p18, h6, -b_pow]
end
end RF
end
section
set_option linter.all false
set_option maxRecDepth 100000
set_option maxHeartbeats 4000000
set_option autoImplicit false
/-! RfPath: paths between two ends (k78). -/
namespace RF
open PySem (Str)
def rowK (l : List Nat) (u v : Rat) (k : Nat) : Nat × What := (l.getD k 0, if k = 0 then .num u else if k + 1 = l.length then .num v else .arr [l.getD (k - 1) 0, l.getD (k + 1) 0])
def pathR (l : List Nat) (u v : Rat) : Rows := (List.range l.length).map (rowK l u v)
/-- a table by the places' order -/
def byIx (l : List Nat) (g : Nat → Rat) (c : Nat) : Rat := g (l.idxOf c)
section
variable {Φ : Fns} {k c e t n : Nat} {a b q s u v w : Rat} {S S1 S2 : Sto} {d o : D} {l m ks js : List Nat} {i j : Int} {δ : En} {g : Nat → Rat}
theorem places_path : places (pathR l u v) = l := by
  unfold places pathR
  rw [List.map_map]
  refine List.ext_getElem (by simp) fun i h1 h2 => ?_
  simp [rowK, List.getD, h2]
theorem idx_getD (hn : l.Nodup) (h : k < l.length) : l.idxOf (l.getD k 0) = k := by
  have e : l.getD k 0 = l[k] := by simp [List.getD, h]
  rw [e]
  exact hn.idxOf_getElem k h
theorem byIx_at (hn : l.Nodup) (h : k < l.length) : byIx l g (l.getD k 0) = g k := by unfold byIx; rw [idx_getD hn h]
theorem getD_mem (h : k < l.length) : l.getD k 0 ∈ l := by simp [List.getD, h]
theorem pathR_ok (hl : 3 ≤ l.length) (h8 : l.length ≤ 10) (ha : asc l = true) (hL : ∀ c ∈ l, isLet c = true) (hu : isPart u) (hv : isPart v) : RowsOk (pathR l u v) := by
  have hpw := asc_pw ha
  have hn := asc_nodup ha
  have hlen : (pathR l u v).length = l.length := by unfold pathR; simp
  have mem : ∀ p ∈ pathR l u v, ∃ k, k < l.length ∧ p = rowK l u v k := fun p hp => by
    obtain ⟨k, hk, rfl⟩ := List.mem_map.mp hp
    exact ⟨k, List.mem_range.mp hk, rfl⟩
  have lt : ∀ i j, i < j → j < l.length → l.getD i 0 < l.getD j 0 := fun i j h1 h2 => by
    have := List.pairwise_iff_getElem.mp hpw i j (by omega) h2 h1
    simpa [List.getD, h2, show i < l.length by omega] using this
  refine ⟨by omega, fun p hp => ?_, fun p hp => ?_, ?_, fun p hp l' hl' t ht => ?_, ?_⟩
  · obtain ⟨k, hk, rfl⟩ := mem p hp
    exact hL _ (getD_mem hk)
  · obtain ⟨k, hk, rfl⟩ := mem p hp
    unfold rowK
    dsimp only
    by_cases h0 : k = 0
    · rw [if_pos h0]; exact hu
    · rw [if_neg h0]
      by_cases h1 : k + 1 = l.length
      · rw [if_pos h1]; exact hv
      · rw [if_neg h1]
        refine ⟨by simp, by simp, ?_, pw_asc ?_⟩
        · simp [hL _ (getD_mem (l := l) (k := k - 1) (by omega)), hL _ (getD_mem (l := l) (k := k + 1) (by omega)), -List.getD_eq_getElem?_getD]
        · have := lt (k - 1) (k + 1) (by omega) (by omega)
          simp [this, -List.getD_eq_getElem?_getD]
  · show asc (places (pathR l u v)) = true
    rw [places_path]
    exact ha
  · show t ∈ places (pathR l u v)
    rw [places_path]
    obtain ⟨k, hk, rfl⟩ := mem p hp
    unfold rowK at hl'
    dsimp only at hl'
    by_cases h0 : k = 0
    · rw [if_pos h0] at hl'; cases hl'
    · rw [if_neg h0] at hl'
      by_cases h1 : k + 1 = l.length
      · rw [if_pos h1] at hl'; cases hl'
      · rw [if_neg h1] at hl'
        cases hl'
        rcases List.mem_cons.mp ht with z | z
        · rw [z]; exact getD_mem (by omega)
        · rw [List.mem_singleton.mp z]; exact getD_mem (by omega)
  · unfold lost
    have hall : ∀ p ∈ pathR l u v, p.1 ∈ homeAfter (pathR l u v) (pathR l u v).length := fun p hp => by
      refine home_all (fun c => l.idxOf c) (fun p hp => ?_) _ p hp ?_
      · obtain ⟨k, hk, rfl⟩ := mem p hp
        unfold rowK
        dsimp only
        by_cases h0 : k = 0
        · rw [if_pos h0]; trivial
        · rw [if_neg h0]
          by_cases h1 : k + 1 = l.length
          · rw [if_pos h1]; trivial
          · rw [if_neg h1]
            refine ⟨l.getD (k - 1) 0, by simp, (rowK l u v (k - 1)).2, List.mem_map.mpr ⟨k - 1, List.mem_range.mpr (by omega), rfl⟩, ?_⟩
            rw [idx_getD hn (by omega), idx_getD hn hk]
            omega
      · obtain ⟨k, hk, rfl⟩ := mem p hp
        show l.idxOf (l.getD k 0) ≤ _
        rw [idx_getD hn hk]
        omega
    rw [List.filter_eq_nil_iff.mpr fun p hp => by simp [hall p hp]]
    rfl
theorem half2 (f : Nat → Rat) (x y : Nat) : halfQ [x, y] f = (f x + f y) / 2 := by
  unfold halfQ minL maxL
  simp only [List.map_cons, List.map_nil, List.foldl_cons, List.foldl_nil]
  have : minQ (f x) (f y) + maxQ (f x) (f y) = f x + f y := by
    unfold minQ maxQ
    by_cases h1 : f y < f x
    · have h2 : ¬ f x < f y := by grind
      rw [if_pos h1, if_neg h2]
      grind
    · rw [if_neg h1]
      by_cases h2 : f x < f y
      · rw [if_pos h2]
      · rw [if_neg h2]
        grind
  rw [this]
/-- a path's table -/
theorem tab_path (hn : l.Nodup) : tabB (pathR l u v) (byIx l g) = (List.range l.length).all fun k => decide (g k = if k = 0 then u else if k + 1 = l.length then v else (g (k - 1) + g (k + 1)) / 2) := by
  unfold tabB pathR
  rw [List.all_map]
  refine Bool.eq_iff_iff.mpr ?_
  rw [List.all_eq_true, List.all_eq_true]
  refine forall_congr' fun k => forall_congr' fun hk => ?_
  have hk' := List.mem_range.mp hk
  have e : (rowK l u v k).2.val (byIx l g) = if k = 0 then u else if k + 1 = l.length then v else (g (k - 1) + g (k + 1)) / 2 := by
    unfold rowK
    dsimp only
    by_cases h0 : k = 0
    · rw [if_pos h0, if_pos h0]; rfl
    · rw [if_neg h0, if_neg h0]
      by_cases h1 : k + 1 = l.length
      · rw [if_pos h1, if_pos h1]; rfl
      · rw [if_neg h1, if_neg h1]
        show halfQ _ _ = _
        rw [half2, byIx_at hn (by omega), byIx_at hn (by omega)]
  show decide (byIx l g (l.getD k 0) = (rowK l u v k).2.val (byIx l g)) = true ↔ _
  rw [e, byIx_at hn hk']
theorem pap_path (hn : l.Nodup) : papD (pathR l u v) (byIx l g) = .tup ((List.range l.length).map fun k => qd (g k)) := by
  unfold papD
  rw [places_path]
  congr 1
  refine List.ext_getElem (by simp) fun i h1 h2 => ?_
  have hi : i < l.length := by simpa using h1
  have e : l.getD i 0 = l[i] := by simp [List.getD, hi]
  have := byIx_at (g := g) hn hi
  rw [e] at this
  simp [this]
/-! ### the numbers -/
def stepP (w : Rat) (n k : Nat) : Rat := mkRat (w.num * k) (w.den * (n + 1))
def numP (u w : Rat) (n k : Nat) : Rat := u + stepP w n k
theorem stepP_eq (w : Rat) (n k : Nat) : stepP w n k = w * k / ((n : Rat) + 1) := by
  have e : mkRat (k : Int) (n + 1) = (k : Rat) / ((n : Rat) + 1) := by
    rw [Rat.mkRat_eq_div]
    push_cast
    rfl
  unfold stepP
  rw [← Rat.mkRat_mul_mkRat, Rat.mkRat_self, e]
  grind
theorem numP_zero : numP u w n 0 = u := by
  unfold numP
  rw [stepP_eq]
  have : ((0 : Nat) : Rat) = 0 := rfl
  rw [this]
  grind
theorem nat1 (n : Nat) : ((n : Rat) + 1) ≠ 0 := by
  have : (0 : Rat) ≤ (n : Rat) := by exact_mod_cast Nat.zero_le n
  grind
theorem numP_last : numP u (v - u) n (n + 1) = v := by
  unfold numP
  rw [stepP_eq]
  have h := nat1 n
  push_cast
  grind
theorem numP_mid (hk : 1 ≤ k) : (numP u w n (k - 1) + numP u w n (k + 1)) / 2 = numP u w n k := by
  unfold numP
  rw [stepP_eq, stepP_eq, stepP_eq]
  obtain ⟨j, rfl⟩ : ∃ j, k = j + 1 := ⟨k - 1, by omega⟩
  rw [show j + 1 - 1 = j by omega]
  push_cast
  grind
theorem sz_step (hw : sz 129 w) (hn : n ≤ 6) (hk : k ≤ 7) : sz 132 (stepP w n k) := by
  have e : (2 : Nat) ^ 132 = 2 ^ 129 * 8 := by decide
  have h1 := hw.1
  have h2 := hw.2
  have h3 := w.den_pos
  refine sz_mk (Nat.mul_ne_zero w.den_nz (by omega)) ?_ ?_
  · rw [Int.natAbs_mul, Int.natAbs_natCast, e]
    calc w.num.natAbs * k ≤ w.num.natAbs * 7 := Nat.mul_le_mul_left _ hk
      _ < 2 ^ 129 * 8 := by omega
  · rw [e]
    calc w.den * (n + 1) ≤ w.den * 7 := Nat.mul_le_mul_left _ (by omega)
      _ < 2 ^ 129 * 8 := by omega
theorem tab_true (hn : l.Nodup) (hl : l.length = n + 2) : tabB (pathR l u v) (byIx l (numP u (v - u) n)) = true := by
  rw [tab_path hn, List.all_eq_true]
  intro k hk
  have hk' := List.mem_range.mp hk
  rw [decide_eq_true_eq]
  by_cases h0 : k = 0
  · rw [if_pos h0, h0]; exact numP_zero
  · rw [if_neg h0]
    by_cases h1 : k + 1 = l.length
    · rw [if_pos h1]
      have : k = n + 1 := by omega
      rw [this]
      exact numP_last
    · rw [if_neg h1]
      exact (numP_mid (by omega)).symm
def bentP (g : Nat → Rat) (i : Nat) (x : Rat) (k : Nat) : Rat := if k = i then x else g k
theorem tab_bent (hn : l.Nodup) (hl : l.length = n + 2) (hi : 1 ≤ i.toNat ∧ i.toNat ≤ n) {x : Rat} (hx : x ≠ numP u (v - u) n i.toNat) : tabB (pathR l u v) (byIx l (bentP (numP u (v - u) n) i.toNat x)) = false := by
  rw [tab_path hn, List.all_eq_false]
  refine ⟨i.toNat, List.mem_range.mpr (by omega), ?_⟩
  rw [decide_eq_true_eq, if_neg (by omega), if_neg (by omega)]
  have h1 : bentP (numP u (v - u) n) i.toNat x (i.toNat - 1) = numP u (v - u) n (i.toNat - 1) := by unfold bentP; rw [if_neg (by omega)]
  have h2 : bentP (numP u (v - u) n) i.toNat x (i.toNat + 1) = numP u (v - u) n (i.toNat + 1) := by unfold bentP; rw [if_neg (by omega)]
  have h3 : bentP (numP u (v - u) n) i.toNat x i.toNat = x := by unfold bentP; rw [if_pos rfl]
  rw [h1, h2, h3, numP_mid hi.1]
  exact hx
end
end RF
end
section
set_option linter.all false
set_option maxRecDepth 100000
set_option maxHeartbeats 4000000
set_option autoImplicit false
/-! RfPath2: the law's own path, and what it asks of it (k78). -/
namespace RF
open PySem (Str)
section
variable {Φ : Fns} {k c e t n : Nat} {a b q s u v w : Rat} {S S1 S2 : Sto} {d o : D} {l m ks js : List Nat} {i j : Int} {δ : En} {g : Nat → Rat}
theorem txt_list (l : List Nat) : (txt l).cps.toList = l := rfl
theorem ixF_txt (h : k < l.length) (hl : l.length ≤ 1000) : ixF (.str (txt l)) (.int k) S = .ok (pd (l.getD k 0)) S := by
  refine ixF_of ?_
  show (if (txt l).length ≤ line then (atI l (k : Int)).map (fun c => D.str (sgn c)) else none) = _
  rw [txt_len, if_pos (by simp [line]; omega)]
  have : atI l (k : Int) = some (l.getD k 0) := by
    have := atI_map id l k (x := l.getD k 0) (by simp [List.getD, h])
    simpa using this
  rw [this]
  rfl
theorem ixF_txt_last (h : 0 < l.length) (hl : l.length ≤ 1000) : ixF (.str (txt l)) (.int (-1)) S = .ok (pd (l.getD (l.length - 1) 0)) S := by
  refine ixF_of ?_
  show (if (txt l).length ≤ line then (atI l (-1)).map (fun c => D.str (sgn c)) else none) = _
  rw [txt_len, if_pos (by simp [line]; omega)]
  have : atI l (-1) = some (l.getD (l.length - 1) 0) := by
    unfold atI ixOf
    have h1 : ¬ (0 : Int) ≤ -1 := by decide
    have h2 : -(l.length : Int) ≤ -1 := by omega
    rw [if_neg h1, if_pos h2]
    have h3 : ((-1 : Int) + l.length).toNat = l.length - 1 := by omega
    show l[((-1 : Int) + l.length).toNat]? = _
    rw [h3, List.getD_eq_getElem?_getD, List.getElem?_eq_getElem (show l.length - 1 < l.length by omega)]
    rfl
  rw [this]
  rfl
theorem rangeL_nat : ∀ (n lo : Nat), rangeL n (lo : Int) = (List.range' lo n).map fun i : Nat => D.int (i : Int)
  | 0, _ => rfl
  | n + 1, lo => by
    have := rangeL_nat n (lo + 1)
    rw [List.range'_succ, List.map_cons, ← this]
    rfl
theorem items_range2 {lo hi : Nat} (h1 : lo ≤ 1000000) (h2 : hi ≤ 1000000) : itemsOf .range2 [.int (lo : Int), .int (hi : Int)] = some ((List.range' lo (hi - lo)).map fun i : Nat => D.int (i : Int)) := by
  have s1 : small (lo : Int) = true := by unfold small; simp; omega
  have s2 : small (hi : Int) = true := by unfold small; simp; omega
  show (if (small (lo : Int) && small (hi : Int)) = true then some (rangeL ((hi : Int) - lo).toNat (lo : Int)) else none) = _
  rw [s1, s2, Bool.true_and, if_pos rfl, show ((hi : Int) - lo).toNat = hi - lo by omega, rangeL_nat]
def PathOk (f : List D → M D) : Prop := ∀ (l : List Nat) (u v : Rat) (S : Sto), 2 ≤ l.length → l.length ≤ 900 → f [.str (txt l), qd u, qd v] S = .ok (rowsD (pathR l u v)) S
def bodyP : List RF.S := [(.app 3 (.tup [(.ix (.var 0) (.var 4)), (.tup [(.ix (.var 0) (.bin .sub (.var 4) (.cst (.int 1)))), (.ix (.var 0) (.bin .add (.var 4) (.cst (.int 1))))])]))]
theorem path_loop {A B : Option D} (hl : l.length ≤ 900) : ∀ (m j : Nat) (o4 : Option D), 1 ≤ j → j + m + 1 = l.length →
    ∃ o4', forL (fF Φ fuel (.nm 4) bodyP) ((List.range' j m).map fun i : Nat => D.int (i : Int)) [some (.str (txt l)), A, B, some (.lst (((List.range j).map (rowK l u v)).map rowD)), o4] S = .ok (.nx [some (.str (txt l)), A, B, some (.lst (((List.range (j + m)).map (rowK l u v)).map rowD)), o4']) S
  | 0, j, o4, h1, h2 => ⟨o4, rfl⟩
  | m + 1, j, o4, h1, h2 => by
    obtain ⟨o4', ih⟩ := path_loop (A := A) (B := B) hl m (j + 1) (some (.int j)) (by omega) (by omega)
    refine ⟨o4', ?_⟩
    rw [List.range'_succ, List.map_cons, for_cons]
    have e0 := ixF_txt (S := S) (l := l) (k := j) (by omega) (by omega)
    have e1 := ixF_txt (S := S) (l := l) (k := j - 1) (by omega) (by omega)
    have e2 := ixF_txt (S := S) (l := l) (k := j + 1) (by omega) (by omega)
    rw [show ((j - 1 : Nat) : Int) = (j : Int) - 1 by omega] at e1
    rw [show ((j + 1 : Nat) : Int) = (j : Int) + 1 by omega] at e2
    have hline : j < line := by simp [line]; omega
    have er : rowD (rowK l u v j) = .tup [pd (l.getD j 0), .tup [pd (l.getD (j - 1) 0), pd (l.getD (j + 1) 0)]] := by
      unfold rowD rowK
      dsimp only
      rw [if_neg (by omega), if_neg (by omega)]
      rfl
    have hb : fF Φ fuel (.nm 4) bodyP (D.int (j : Int)) [some (.str (txt l)), A, B, some (.lst (((List.range j).map (rowK l u v)).map rowD)), o4] S = .ok (.nx [some (.str (txt l)), A, B, some (.lst (((List.range (j + 1)).map (rowK l u v)).map rowD)), some (.int j)]) S := by
      rw [List.range_succ, List.map_append, List.map_append, List.map_cons, List.map_nil, List.map_cons, List.map_nil, er]
      unfold bodyP
      simp [fF_run, e0, e1, e2, hline, -List.getD_eq_getElem?_getD]
    rw [hb, go_ok]
    rw [show j + (m + 1) = j + 1 + m by omega]
    exact ih
theorem path_ok : PathOk (h_law_path3 Φ) := by
  intro l u v S h2 hl
  obtain ⟨o4', e1⟩ := path_loop (Φ := Φ) (S := S) (A := some (qd u)) (B := some (qd v)) (u := u) (v := v) hl (l.length - 2) 1 none (by omega) (by omega)
  rw [show 1 + (l.length - 2) = l.length - 1 by omega] at e1
  have e2 : itemsOf .range2 [.int 1, .int ((l.length : Int) - 1)] = some ((List.range' 1 (l.length - 2)).map fun i : Nat => D.int (i : Int)) := by
    have := items_range2 (lo := 1) (hi := l.length - 1) (by omega) (by omega)
    rw [show ((l.length - 1 : Nat) : Int) = (l.length : Int) - 1 by omega, show l.length - 1 - 1 = l.length - 2 by omega] at this
    exact this
  have e3 := ixF_txt (S := S) (l := l) (k := 0) (by omega) (by omega)
  have e3' : ixF (.str (txt l)) (.int 0) S = .ok (pd (l.getD 0 0)) S := e3
  have e4 := ixF_txt_last (S := S) (l := l) (by omega) (by omega)
  have e5 : biD .len [.str (txt l)] S = .ok (.int l.length) S := by rw [f_lenS, txt_len, if_pos (by simp [line]; omega)]
  have r0 : [rowD (rowK l u v 0)] = ((List.range 1).map (rowK l u v)).map rowD := rfl
  have r0' : rowD (rowK l u v 0) = .tup [pd (l.getD 0 0), qd u] := rfl
  have r1 : rowD (rowK l u v (l.length - 1)) = .tup [pd (l.getD (l.length - 1) 0), qd v] := by
    unfold rowD rowK
    dsimp only
    rw [if_neg (by omega), if_pos (by omega)]
    rfl
  have r2 : ((List.range (l.length - 1)).map (rowK l u v)).map rowD ++ [D.tup [pd (l.getD (l.length - 1) 0), qd v]] = (pathR l u v).map rowD := by
    unfold pathR
    rw [← r1, show l.length = (l.length - 1) + 1 by omega, List.range_succ]
    simp
  rw [← r0, r0'] at e1
  have e0 : q_law_path3 = [(.asg (.nm 3) (.lst [(.tup [(.ix (.var 0) (.cst (.int 0))), (.var 1)])])), (.forr (.nm 4) .range2 [(.cst (.int 1)), (.bin .sub (.bi .len [(.var 0)]) (.cst (.int 1)))] bodyP), (.ret (some (.bi .tuple [(.bin .add (.var 3) (.lst [(.tup [(.ix (.var 0) (.neg (.cst (.int 1)))), (.var 2)])]))])))] := rfl
  have hline : (((List.range (l.length - 1)).map (rowK l u v)).map rowD).length + 1 ≤ line := by simp [line]; omega
  have s3 : denS Φ fuel (.ret (some (.bi .tuple [(.bin .add (.var 3) (.lst [(.tup [(.ix (.var 0) (.neg (.cst (.int 1)))), (.var 2)])]))]))) [some (.str (txt l)), some (qd u), some (qd v), some (.lst (((List.range (l.length - 1)).map (rowK l u v)).map rowD)), o4'] S = .ok (.rt (rowsD (pathR l u v))) S := by
    unfold rowsD
    rw [← r2]
    have h4 : binD .add (.lst (((List.range (l.length - 1)).map (rowK l u v)).map rowD)) (.lst [D.tup [pd (l.getD (l.length - 1) 0), qd v]]) S = .ok (.lst (((List.range (l.length - 1)).map (rowK l u v)).map rowD ++ [D.tup [pd (l.getD (l.length - 1) 0), qd v]])) S := by
      rw [b_addL]
      exact if_pos hline
    simp [e4, h4, -b_addL, -List.getD_eq_getElem?_getD, -List.map_map]
  unfold h_law_path3
  rw [e0]
  simp only [runB_run, List.map_cons, List.map_nil, List.cons_append, List.nil_append, List.length_cons, List.length_nil, show List.replicate (5 - (0 + 1 + 1 + 1)) (none : Option D) = [none, none] from rfl, ss_cons]
  have s1 : denS Φ fuel (.asg (.nm 3) (.lst [(.tup [(.ix (.var 0) (.cst (.int 0))), (.var 1)])])) [some (.str (txt l)), some (qd u), some (qd v), none, none] S = .ok (.nx [some (.str (txt l)), some (qd u), some (qd v), some (.lst [D.tup [pd (l.getD 0 0), qd u]]), none]) S := by
    simp [e3', -List.getD_eq_getElem?_getD]
  have s2 : denS Φ fuel (.forr (.nm 4) .range2 [(.cst (.int 1)), (.bin .sub (.bi .len [(.var 0)]) (.cst (.int 1)))] bodyP) [some (.str (txt l)), some (qd u), some (qd v), some (.lst [D.tup [pd (l.getD 0 0), qd u]]), none] S = .ok (.nx [some (.str (txt l)), some (qd u), some (qd v), some (.lst (((List.range (l.length - 1)).map (rowK l u v)).map rowD)), o4']) S := by
    have x1 : denXs Φ [(.cst (.int 1)), (.bin .sub (.bi .len [(.var 0)]) (.cst (.int 1)))] [some (.str (txt l)), some (qd u), some (qd v), some (.lst [D.tup [pd (l.getD 0 0), qd u]]), none] S = .ok [.int 1, .int ((l.length : Int) - 1)] S := by
      simp [e5, -f_lenS, -List.getD_eq_getElem?_getD]
    rw [s_for, x1, go_ok, e2, ofO_some, go_ok]
    exact e1
  simp only [s1, s2, s3, nxt_nx, nxt_rt, ret_rt, ss_cons]
/-! ### texts of lists of bools -/
def boolsD (l : List Bool) : D := .lst (l.map D.bl)
theorem repr_bools {l : List Bool} (h : showOk (boolsD l) = true) : biD .repr [boolsD l] S = .ok (.str (D.text (boolsD l))) S := by
  show (if showOk (.lst (l.map D.bl)) = true then (pure (.str (D.text (.lst (l.map D.bl)))) : M D) else M.no) S = _
  unfold boolsD at h ⊢
  rw [if_pos h]
  rfl
end
end RF
end
section
set_option linter.all false
set_option maxRecDepth 100000
set_option maxHeartbeats 4000000
set_option autoImplicit false
/-! RfPath3: claims about a path are judged right (k78). -/
namespace RF
open PySem (Str)
section
variable {Φ : Fns} {k c e t n : Nat} {a b q s u v w : Rat} {S S1 S2 : Sto} {d o : D} {l m ks js : List Nat} {i j : Int} {δ : En} {g : Nat → Rat}
theorem cutL_take {α : Type} (l : List α) (i : Nat) : cutL l none (some (i : Int)) = l.take i := by
  unfold cutL cutIx
  have h : ¬ (i : Int) < 0 := by omega
  simp only [h, if_false, List.drop_zero, Nat.sub_zero, Int.toNat_natCast]
  by_cases z : i ≤ l.length
  · rw [Nat.min_eq_left z]
  · rw [Nat.min_eq_right (by omega), List.take_of_length_le (by omega), List.take_of_length_le (by omega)]
theorem cutL_drop {α : Type} (l : List α) (i : Nat) : cutL l (some (i : Int)) none = l.drop i := by
  unfold cutL cutIx
  have h : ¬ (i : Int) < 0 := by omega
  simp only [h, if_false, Int.toNat_natCast]
  by_cases z : i ≤ l.length
  · rw [Nat.min_eq_left z, List.take_of_length_le (by simp)]
  · rw [Nat.min_eq_right (by omega), List.take_of_length_le (by simp), List.drop_of_length_le (by omega), List.drop_of_length_le (by omega)]
theorem bent_list {N i : Nat} (hi : i < N) (g : Nat → Rat) (x : Rat) : ((List.range N).map fun k => qd (g k)).take i ++ [qd x] ++ ((List.range N).map fun k => qd (g k)).drop (i + 1) = (List.range N).map fun k => qd (bentP g i x k) := by
  refine List.ext_getElem ?_ fun j h1 h2 => ?_
  · simp; omega
  · have hj : j < N := by simpa using h2
    simp only [List.getElem_map, List.getElem_range]
    unfold bentP
    by_cases z : j < i
    · rw [List.getElem_append_left (by simp; omega), List.getElem_append_left (by simp; omega)]
      simp [show j ≠ i by omega]
    · by_cases y : j = i
      · subst y
        rw [List.getElem_append_left (by simp; omega), List.getElem_append_right (by simp; omega)]
        simp
      · rw [List.getElem_append_right (by simp; omega)]
        simp only [List.length_append, List.length_take, List.length_map, List.length_range, List.length_cons, List.length_nil, List.getElem_drop, List.getElem_map, List.getElem_range]
        rw [Nat.min_eq_left (by omega), if_neg y, show i + 1 + (j - (i + (0 + 1))) = j by omega]
def PathRight (f : List D → M D) : Prop := ∀ (S : Sto) (m n : Nat) (l : List Nat) (u v : Rat), UrnAt S m → 1 ≤ n → n ≤ 6 → l.length = n + 2 → asc l = true → (∀ c ∈ l, isLet c = true) → isPart u → isPart v →
  ∃ S', Moves m S S' ∧ f [.obj m, .int n, .str (txt l), qd u, qd v] S = .ok (.bl true) S'
theorem sz_part (h : isPart q) : sz 64 q := sz_unit h.1.1 h.1.2 h.2
theorem tiny_pos (d : Nat) : (0 : Rat) < ⟨1, 1000000000 + d, by omega, by simp⟩ := by
  rw [Rat.lt_iff]
  show (0 : Int) * _ < 1 * 1
  omega
theorem c_eqL {l : List D} (h : okEq (.lst l) (.lst l) = true) : cmpD .eq (.lst l) (.lst l) S = .ok (.bl (D.eqv (.lst l) (.lst l))) S := by
  show (if okEq (.lst l) (.lst l) = true then (pure (.bl (D.eqv (.lst l) (.lst l))) : M D) else M.no) S = _
  rw [if_pos h]
  rfl
theorem pathRight_ok (hP : PathOk (Φ.fn 2203)) (hM : AddOk (· - ·) (Φ.fn 2105)) (hA : AddOk (· + ·) (Φ.fn 2097)) (hL : LowestOk (Φ.fn 2093)) (hD : DipOk (Φ.fn 2085)) (hC : AccOk (Φ.fn 104)) : PathRight (h_law_path_right Φ) := by
  intro S m n l u v hS h1 h6 hl ha hlet hu hv
  have hn := asc_nodup ha
  have hr := pathR_ok (u := u) (v := v) (by omega) (by omega) ha hlet hu hv
  have zu := sz_part hu
  have zv := sz_part hv
  have zw : sz 129 (v - u) := sz_sub zv zu
  have zP : ∀ k, k ≤ 7 → sz 265 (numP u (v - u) n k) := fun k hk => sz_add (zu.mono (by decide)) (sz_step zw h6 hk)
  -- the numbers
  obtain ⟨OWN, hOWN⟩ : ∃ x, x = D.tup ((List.range (n + 2)).map fun k => qd (numP u (v - u) n k)) := ⟨_, rfl⟩
  obtain ⟨RR, hRR⟩ : ∃ x, x = rowsD (pathR l u v) := ⟨_, rfl⟩
  obtain ⟨W, hW⟩ : ∃ x, x = v - u := ⟨_, rfl⟩
  have q1 : Φ.fn 2203 [.str (txt l), qd u, qd v] S = .ok RR S := by rw [hRR]; exact hP l u v S (by omega) (by omega)
  have q2 : Φ.fn 2105 [qd v, qd u] S = .ok (qd W) S := by rw [hW]; exact hM 64 v u S (by decide) zv zu
  rw [← hW] at zw zP hOWN
  have hc1 : ∀ k ∈ List.range (n + 2), kF Φ (.nm 16) [] (.call 2097 [(.var 3), (.call 2093 [(.bin .mul (.ix (.var 6) (.cst (.int 0))) (.var 16)), (.bin .mul (.ix (.var 6) (.cst (.int 1))) (.bin .add (.var 1) (.cst (.int 1))))])]) [16] [some (.obj m), some (.int n), some (.str (txt l)), some (qd u), some (qd v), some RR, some (qd W), none, none, none, none, none, none, none, none, none, none] (D.int (k : Int)) S = .ok (some (qd (numP u W n k))) S := by
    intro k hk
    have hk' := List.mem_range.mp hk
    have b100 : (2 : Nat) ^ 200 > 1000 := by decide
    have m1 : mulOk W.num (k : Int) = true := mulOk_of (k := 200) (Nat.lt_trans zw.1 (by decide)) (by omega) (by decide) (by decide)
    have m2 : mulOk (W.den : Int) ((n : Int) + 1) = true := mulOk_of (k := 200) (by rw [den_abs]; exact Nat.lt_trans zw.2 (by decide)) (by omega) (by decide) (by decide)
    have z0 : W.den * (n + 1) < 2 ^ 9000 := by
      have e : (2 : Nat) ^ 132 = 2 ^ 129 * 8 := by decide
      have : W.den * (n + 1) ≤ W.den * 7 := Nat.mul_le_mul_left _ (by omega)
      have h2 := zw.2
      refine Nat.lt_of_lt_of_le (show W.den * (n + 1) < 2 ^ 132 by omega) (Nat.pow_le_pow_right (by decide) (by decide))
    have e1 := hL (W.num * k) (W.den * (n + 1)) S (Nat.mul_pos W.den_pos (by omega)) z0
    have e2 := hA 132 u (stepP W n k) S (by decide) (zu.mono (by decide)) (sz_step zw h6 (by omega))
    have e3 : ((W.den * (n + 1) : Nat) : Int) = (W.den : Int) * ((n : Int) + 1) := by simp
    rw [e3] at e1
    have x0 : ixF (qd W) (.int 0) S = .ok (.int W.num) S := ixF_T0
    have x1 : ixF (qd W) (.int 1) S = .ok (.int W.den) S := ixF_T1
    simp [kF_run, wipe, x0, x1, m1, m2, e1]
    exact (show (Φ.fn 2097 [qd u, qd (stepP W n k)] S).go (fun v s => Out.ok (some v) s) = _ by rw [e2]; rfl)
  have c1 := comp_map1 hc1
  have i1 : itemsOf .range1 [.int ((n : Int) + 2)] = some ((List.range (n + 2)).map fun i : Nat => D.int (i : Int)) := by
    have := items_rangeN (n := n + 2) (by omega)
    rw [← List.range_eq_range'] at this
    exact this
  have lN : ((List.range (n + 2)).map fun i : Nat => D.int (i : Int)).length < line := by simp [line]; omega
  have s1 : denS Φ fuel (.asg (.tup [(.nm 5), (.nm 6)]) (.tup [(.call 2203 [(.var 2), (.var 3), (.var 4)]), (.call 2105 [(.var 4), (.var 3)])])) [some (.obj m), some (.int n), some (.str (txt l)), some (qd u), some (qd v), none, none, none, none, none, none, none, none, none, none, none, none] S = .ok (.nx [some (.obj m), some (.int n), some (.str (txt l)), some (qd u), some (qd v), some RR, some (qd W), none, none, none, none, none, none, none, none, none, none]) S := by
    simp [q1, q2]
  have s2 : denS Φ fuel (.asg (.nm 7) (.bi .tuple [(.comp (.call 2097 [(.var 3), (.call 2093 [(.bin .mul (.ix (.var 6) (.cst (.int 0))) (.var 16)), (.bin .mul (.ix (.var 6) (.cst (.int 1))) (.bin .add (.var 1) (.cst (.int 1))))])]) (.nm 16) .range1 [(.bin .add (.var 1) (.cst (.int 2)))] [] [16])])) [some (.obj m), some (.int n), some (.str (txt l)), some (qd u), some (qd v), some RR, some (qd W), none, none, none, none, none, none, none, none, none, none] S = .ok (.nx [some (.obj m), some (.int n), some (.str (txt l)), some (qd u), some (qd v), some RR, some (qd W), some OWN, none, none, none, none, none, none, none, none, none]) S := by
    have y : denX Φ (.comp (.call 2097 [(.var 3), (.call 2093 [(.bin .mul (.ix (.var 6) (.cst (.int 0))) (.var 16)), (.bin .mul (.ix (.var 6) (.cst (.int 1))) (.bin .add (.var 1) (.cst (.int 1))))])]) (.nm 16) .range1 [(.bin .add (.var 1) (.cst (.int 2)))] [] [16]) [some (.obj m), some (.int n), some (.str (txt l)), some (qd u), some (qd v), some RR, some (qd W), none, none, none, none, none, none, none, none, none, none] S = .ok (.lst ((List.range (n + 2)).map fun k => qd (numP u W n k))) S := by
      rw [r_comp]
      simp only [rs_cons, rs_nil, r_bin, r_var, getV_run, List.getElem?_cons_succ, List.getElem?_cons_zero, go_ok, r_cst, b_add, i1, ofO_some, c1]
      rw [if_pos lN]
    rw [hOWN]
    simp [y, -r_comp]
  -- the draws
  obtain ⟨d1, S1, hd1, m1, e1⟩ := hD S m n hS (by omega) (by omega)
  obtain ⟨d2, S2, hd2, m2, e2⟩ := hD S1 m 99 m1.1 (by decide) (by decide)
  have e2' : Φ.fn 2085 [.obj m, .int 99] S1 = .ok (.int d2) S2 := e2
  obtain ⟨at_, hat⟩ : ∃ x : Nat, x = 1 + d1 := ⟨_, rfl⟩
  have hatI : (1 : Int) + d1 = (at_ : Int) := by omega
  obtain ⟨T, hT, hTq⟩ : ∃ T : Rat, 0 < T ∧ qd T = .tup [.int 1, .int (1000000000 + d2)] := ⟨⟨1, 1000000000 + d2, by omega, by simp⟩, tiny_pos d2, by
    unfold qd
    dsimp only
    rw [show ((1000000000 + d2 : Nat) : Int) = 1000000000 + (d2 : Int) by omega]⟩
  have zT : sz 64 T := by
    unfold qd at hTq
    injection hTq with hTq
    injection hTq with t1 t2
    injection t2 with t2 _
    injection t1 with t1
    injection t2 with t2
    have : (2 : Nat) ^ 64 > 2000000000 := by decide
    exact ⟨by omega, by omega⟩
  have s3 : denS Φ fuel (.par [8, 9] [(.bin .add (.cst (.int 1)) (.call 2085 [(.var 0), (.var 1)])), (.tup [(.cst (.int 1)), (.bin .add (.bin .pow (.cst (.int 10)) (.cst (.int 9))) (.call 2085 [(.var 0), (.cst (.int 99))]))])]) [some (.obj m), some (.int n), some (.str (txt l)), some (qd u), some (qd v), some RR, some (qd W), some OWN, none, none, none, none, none, none, none, none, none] S = .ok (.nx [some (.obj m), some (.int n), some (.str (txt l)), some (qd u), some (qd v), some RR, some (qd W), some OWN, some (.int at_), some (qd T), none, none, none, none, none, none, none]) S2 := by
    rw [hTq]
    simp [e1, e2', hatI, p9, -b_pow]
  have hat1 : at_ < l.length := by omega
  have x1 := ixF_txt (S := S2) hat1 (by omega)
  obtain ⟨c, hc⟩ : ∃ c, c = l.getD at_ 0 := ⟨_, rfl⟩
  rw [← hc] at x1
  obtain ⟨q0, hq0⟩ : ∃ x, x = numP u W n at_ := ⟨_, rfl⟩
  have x2 : ixF OWN (.int at_) S2 = .ok (qd q0) S2 := by
    rw [hOWN, hq0]
    exact ixF_of (atI_map (fun k => qd (numP u W n k)) (List.range (n + 2)) at_ (x := at_) (List.getElem?_range (by omega)))
  have s4 : denS Φ fuel (.par [10, 11] [(.ix (.var 2) (.var 8)), (.ix (.var 7) (.var 8))]) [some (.obj m), some (.int n), some (.str (txt l)), some (qd u), some (qd v), some RR, some (qd W), some OWN, some (.int at_), some (qd T), none, none, none, none, none, none, none] S2 = .ok (.nx [some (.obj m), some (.int n), some (.str (txt l)), some (qd u), some (qd v), some RR, some (qd W), some OWN, some (.int at_), some (qd T), some (pd c), some (qd q0), none, none, none, none, none]) S2 := by
    simp [x1, x2]
  have zq : sz 265 q0 := by rw [hq0]; exact zP at_ (by omega)
  have e3 := hA 265 q0 T S2 (by decide) zq (zT.mono (by decide))
  have e4 := hM 265 q0 T S2 (by decide) zq (zT.mono (by decide))
  have zm : sz 531 (q0 + T) := sz_add zq (zT.mono (by decide))
  have zl : sz 531 (q0 - T) := sz_sub zq (zT.mono (by decide))
  obtain ⟨M1, hM1⟩ : ∃ x, x = q0 + T := ⟨_, rfl⟩
  obtain ⟨L1, hL1⟩ : ∃ x, x = q0 - T := ⟨_, rfl⟩
  have e3' : Φ.fn 2097 [qd q0, qd T] S2 = .ok (qd M1) S2 := by rw [hM1]; exact e3
  have e4' : Φ.fn 2105 [qd q0, qd T] S2 = .ok (qd L1) S2 := by rw [hL1]; exact e4
  rw [← hM1] at zm
  rw [← hL1] at zl
  have s5 : denS Φ fuel (.par [12, 13] [(.call 2097 [(.var 11), (.var 9)]), (.call 2105 [(.var 11), (.var 9)])]) [some (.obj m), some (.int n), some (.str (txt l)), some (qd u), some (qd v), some RR, some (qd W), some OWN, some (.int at_), some (qd T), some (pd c), some (qd q0), none, none, none, none, none] S2 = .ok (.nx [some (.obj m), some (.int n), some (.str (txt l)), some (qd u), some (qd v), some RR, some (qd W), some OWN, some (.int at_), some (qd T), some (pd c), some (qd q0), some (qd M1), some (qd L1), none, none, none]) S2 := by
    simp [e3', e4']
  -- what is accepted
  have hpl : places (pathR l u v) = l := places_path
  have hcm : c ∈ places (pathR l u v) := by rw [hpl, hc]; exact getD_mem hat1
  have hpap : papD (pathR l u v) (byIx l (numP u W n)) = OWN := by rw [pap_path hn, hOWN, hl]
  have hszf : ∀ x ∈ places (pathR l u v), sz 1900 (byIx l (numP u W n) x) := fun x hx => by
    rw [hpl] at hx
    have := List.idxOf_lt_length_of_mem hx
    exact (zP _ (by omega)).mono (by decide)
  have hft : tabB (pathR l u v) (byIx l (numP u W n)) = true := by rw [hW]; exact tab_true hn hl
  have hfc : byIx l (numP u W n) c = q0 := by rw [hc, hq0]; exact byIx_at hn hat1
  have zq' : sz 1900 q0 := zq.mono (by decide)
  have zm' : sz 1900 M1 := zm.mono (by decide)
  have zl' : sz 1900 L1 := zl.mono (by decide)
  have a1 := hC.needs (pathR l u v) (byIx l (numP u W n)) c q0 S2 hr hcm hszf zq'
  have a2 := hC.needs (pathR l u v) (byIx l (numP u W n)) c M1 S2 hr hcm hszf zm'
  have a3 := hC.above (pathR l u v) (byIx l (numP u W n)) c L1 S2 hr hcm hszf zl'
  have a4 := hC.above (pathR l u v) (byIx l (numP u W n)) c q0 S2 hr hcm hszf zq'
  have a5 := hC.above (pathR l u v) (byIx l (numP u W n)) c M1 S2 hr hcm hszf zm'
  have a6 := hC.below (pathR l u v) (byIx l (numP u W n)) c M1 S2 hr hcm hszf zm'
  have a7 := hC.below (pathR l u v) (byIx l (numP u W n)) c q0 S2 hr hcm hszf zq'
  have a8 := hC.below (pathR l u v) (byIx l (numP u W n)) c L1 S2 hr hcm hszf zl'
  rw [hpap, hft, hfc, Bool.true_and] at a1 a2 a3 a4 a5 a6 a7 a8
  unfold claimD at a1 a2 a3 a4 a5 a6 a7 a8
  rw [← hRR] at a1 a2 a3 a4 a5 a6 a7 a8
  have t1 : ¬ q0 = M1 := by rw [hM1]; grind
  have t2 : L1 < q0 := by rw [hL1]; grind
  have t3 : ¬ q0 < q0 := by grind
  have t4 : ¬ M1 < q0 := by rw [hM1]; grind
  have t5 : q0 < M1 := by rw [hM1]; grind
  have t6 : ¬ q0 < L1 := by rw [hL1]; grind
  rw [decide_eq_true rfl] at a1
  rw [decide_eq_false t1] at a2
  rw [decide_eq_true t2] at a3
  rw [decide_eq_false t3] at a4 a7
  rw [decide_eq_false t4] at a5
  rw [decide_eq_true t5] at a6
  rw [decide_eq_false t6] at a8
  -- the bent paper
  obtain ⟨BENT, hBENT⟩ : ∃ x, x = D.tup ((List.range (n + 2)).map fun k => qd (bentP (numP u W n) at_ M1 k)) := ⟨_, rfl⟩
  have hpapB : papD (pathR l u v) (byIx l (bentP (numP u W n) at_ M1)) = BENT := by rw [pap_path hn, hBENT, hl]
  have hszB : ∀ x ∈ places (pathR l u v), sz 1900 (byIx l (bentP (numP u W n) at_ M1) x) := fun x hx => by
    rw [hpl] at hx
    have := List.idxOf_lt_length_of_mem hx
    unfold byIx bentP
    split
    · exact zm'
    · exact (zP _ (by omega)).mono (by decide)
  have hftB : tabB (pathR l u v) (byIx l (bentP (numP u W n) at_ M1)) = false := by
    have h := tab_bent (i := (at_ : Int)) (u := u) (v := v) hn hl (by rw [Int.toNat_natCast]; omega) (x := M1) (by rw [Int.toNat_natCast, ← hW, ← hq0]; exact fun z => t1 z.symm)
    rw [Int.toNat_natCast, ← hW] at h
    exact h
  have hc0 : l.getD 0 0 ∈ places (pathR l u v) := by rw [hpl]; exact getD_mem (by omega)
  have b1 := hC.needs (pathR l u v) (byIx l (bentP (numP u W n) at_ M1)) c M1 S2 hr hcm hszB zm'
  have b2 := hC.below (pathR l u v) (byIx l (bentP (numP u W n) at_ M1)) (l.getD 0 0) 2 S2 hr hc0 hszB ⟨by
    have : (2 : Nat) ^ 2 ≤ 2 ^ 1900 := Nat.pow_le_pow_right (by decide) (by decide)
    show 2 < 2 ^ 1900
    omega, Nat.one_lt_two_pow (by decide)⟩
  rw [hpapB, hftB, Bool.false_and] at b1 b2
  unfold claimD at b1 b2
  rw [← hRR] at b1 b2
  have b2' : Φ.fn 104 [.tup [.str "below", RR, pd (l.getD 0 0), .tup [.int 2, .int 1]], BENT] S2 = .ok (.bl false) S2 := b2
  have x3 : ixF (.str (txt l)) (.int 0) S2 = .ok (pd (l.getD 0 0)) S2 := ixF_txt (S := S2) (k := 0) (by omega) (by omega)
  have hcut : denX Φ (.bin .add (.bin .add (.cut (.var 7) none (some (.var 8))) (.tup [(.var 12)])) (.cut (.var 7) (some (.bin .add (.var 8) (.cst (.int 1)))) none)) [some (.obj m), some (.int n), some (.str (txt l)), some (qd u), some (qd v), some RR, some (qd W), some OWN, some (.int at_), some (qd T), some (pd c), some (qd q0), some (qd M1), some (qd L1), some (.lst [.bl true, .bl false, .bl true, .bl false, .bl false, .bl true, .bl false, .bl false]), none, none] S2 = .ok BENT S2 := by
    have h0 := bent_list (N := n + 2) (i := at_) (by omega) (numP u W n) M1
    have y1 := cutL_take ((List.range (n + 2)).map fun k => qd (numP u W n k)) at_
    have y2 := cutL_drop ((List.range (n + 2)).map fun k => qd (numP u W n k)) (at_ + 1)
    rw [show ((at_ + 1 : Nat) : Int) = (at_ : Int) + 1 by omega] at y2
    have l1 : (((List.range (n + 2)).map fun k => qd (numP u W n k)).take at_).length + [qd M1].length ≤ line := by simp [line]; omega
    have l2 : (((List.range (n + 2)).map fun k => qd (numP u W n k)).take at_ ++ [qd M1]).length + (((List.range (n + 2)).map fun k => qd (numP u W n k)).drop (at_ + 1)).length ≤ line := by simp [line]; omega
    have g1 : binD .add (.tup (((List.range (n + 2)).map fun k => qd (numP u W n k)).take at_)) (.tup [qd M1]) S2 = .ok (.tup (((List.range (n + 2)).map fun k => qd (numP u W n k)).take at_ ++ [qd M1])) S2 := by rw [b_addT]; exact if_pos l1
    have g2 : binD .add (.tup (((List.range (n + 2)).map fun k => qd (numP u W n k)).take at_ ++ [qd M1])) (.tup (((List.range (n + 2)).map fun k => qd (numP u W n k)).drop (at_ + 1))) S2 = .ok BENT S2 := by
      rw [b_addT, hBENT, ← h0]
      exact if_pos l2
    have g3 : M.ofO (cutD OWN none (some (at_ : Int))) S2 = .ok (.tup (((List.range (n + 2)).map fun k => qd (numP u W n k)).take at_)) S2 := by rw [hOWN, ← y1]; rfl
    have g4 : M.ofO (cutD OWN (some ((at_ : Int) + 1)) none) S2 = .ok (.tup (((List.range (n + 2)).map fun k => qd (numP u W n k)).drop (at_ + 1))) S2 := by rw [hOWN, ← y2]; rfl
    simp only [r_bin, r_cut, r_var, getV_run, List.getElem?_cons_succ, List.getElem?_cons_zero, go_ok, o_none, o_some, intF_int, g3, r_tup, rs_cons, rs_nil, List.length_cons, List.length_nil, Nat.zero_add, r_cst, b_add, g4]
    simp only [show (1 : Nat) ≤ 1000 from by decide, if_true, go_ok, g1, g2, g4]
  have cl : ∀ {x y : List D}, x.length + y.length ≤ 100 → ∀ S, binD .add (.lst x) (.lst y) S = .ok (.lst (x ++ y)) S := fun h S => by rw [b_addL]; exact if_pos (by simp [line]; omega)
  have sh : showOk (boolsD [true, false, true, false, false, true, false, false, false, false]) = true := by decide +kernel
  have rp := repr_bools (S := S2) sh
  have rp' : biD .repr [.lst [.bl true, .bl false, .bl true, .bl false, .bl false, .bl true, .bl false, .bl false, .bl false, .bl false]] S2 = .ok (.str (D.text (boolsD [true, false, true, false, false, true, false, false, false, false]))) S2 := rp
  refine ⟨S2, m1.trans m2, ?_⟩
  have s6 : denS Φ fuel (.asg (.nm 14) (.lst [(.call 104 [(.tup [(.cst (.str "needs")), (.var 5), (.var 10), (.var 11)]), (.var 7)]), (.call 104 [(.tup [(.cst (.str "needs")), (.var 5), (.var 10), (.var 12)]), (.var 7)])])) [some (.obj m), some (.int n), some (.str (txt l)), some (qd u), some (qd v), some RR, some (qd W), some OWN, some (.int at_), some (qd T), some (pd c), some (qd q0), some (qd M1), some (qd L1), none, none, none] S2 = .ok (.nx [some (.obj m), some (.int n), some (.str (txt l)), some (qd u), some (qd v), some RR, some (qd W), some OWN, some (.int at_), some (qd T), some (pd c), some (qd q0), some (qd M1), some (qd L1), some (.lst [.bl true, .bl false]), none, none]) S2 := by
    simp [a1, a2]
  have s7 : denS Φ fuel (.asg (.nm 14) (.bin .add (.var 14) (.lst [(.call 104 [(.tup [(.cst (.str "above")), (.var 5), (.var 10), (.var 13)]), (.var 7)]), (.call 104 [(.tup [(.cst (.str "above")), (.var 5), (.var 10), (.var 11)]), (.var 7)])]))) [some (.obj m), some (.int n), some (.str (txt l)), some (qd u), some (qd v), some RR, some (qd W), some OWN, some (.int at_), some (qd T), some (pd c), some (qd q0), some (qd M1), some (qd L1), some (.lst [.bl true, .bl false]), none, none] S2 = .ok (.nx [some (.obj m), some (.int n), some (.str (txt l)), some (qd u), some (qd v), some RR, some (qd W), some OWN, some (.int at_), some (qd T), some (pd c), some (qd q0), some (qd M1), some (qd L1), some (.lst [.bl true, .bl false, .bl true, .bl false]), none, none]) S2 := by
    simp [a3, a4, line]
  have s8 : denS Φ fuel (.asg (.nm 14) (.bin .add (.var 14) (.lst [(.call 104 [(.tup [(.cst (.str "above")), (.var 5), (.var 10), (.var 12)]), (.var 7)]), (.call 104 [(.tup [(.cst (.str "below")), (.var 5), (.var 10), (.var 12)]), (.var 7)])]))) [some (.obj m), some (.int n), some (.str (txt l)), some (qd u), some (qd v), some RR, some (qd W), some OWN, some (.int at_), some (qd T), some (pd c), some (qd q0), some (qd M1), some (qd L1), some (.lst [.bl true, .bl false, .bl true, .bl false]), none, none] S2 = .ok (.nx [some (.obj m), some (.int n), some (.str (txt l)), some (qd u), some (qd v), some RR, some (qd W), some OWN, some (.int at_), some (qd T), some (pd c), some (qd q0), some (qd M1), some (qd L1), some (.lst [.bl true, .bl false, .bl true, .bl false, .bl false, .bl true]), none, none]) S2 := by
    simp [a5, a6, line]
  have s9 : denS Φ fuel (.asg (.nm 14) (.bin .add (.var 14) (.lst [(.call 104 [(.tup [(.cst (.str "below")), (.var 5), (.var 10), (.var 11)]), (.var 7)]), (.call 104 [(.tup [(.cst (.str "below")), (.var 5), (.var 10), (.var 13)]), (.var 7)])]))) [some (.obj m), some (.int n), some (.str (txt l)), some (qd u), some (qd v), some RR, some (qd W), some OWN, some (.int at_), some (qd T), some (pd c), some (qd q0), some (qd M1), some (qd L1), some (.lst [.bl true, .bl false, .bl true, .bl false, .bl false, .bl true]), none, none] S2 = .ok (.nx [some (.obj m), some (.int n), some (.str (txt l)), some (qd u), some (qd v), some RR, some (qd W), some OWN, some (.int at_), some (qd T), some (pd c), some (qd q0), some (qd M1), some (qd L1), some (.lst [.bl true, .bl false, .bl true, .bl false, .bl false, .bl true, .bl false, .bl false]), none, none]) S2 := by
    simp [a7, a8, line]
  have s10 : denS Φ fuel (.asg (.nm 15) (.bin .add (.bin .add (.cut (.var 7) none (some (.var 8))) (.tup [(.var 12)])) (.cut (.var 7) (some (.bin .add (.var 8) (.cst (.int 1)))) none))) [some (.obj m), some (.int n), some (.str (txt l)), some (qd u), some (qd v), some RR, some (qd W), some OWN, some (.int at_), some (qd T), some (pd c), some (qd q0), some (qd M1), some (qd L1), some (.lst [.bl true, .bl false, .bl true, .bl false, .bl false, .bl true, .bl false, .bl false]), none, none] S2 = .ok (.nx [some (.obj m), some (.int n), some (.str (txt l)), some (qd u), some (qd v), some RR, some (qd W), some OWN, some (.int at_), some (qd T), some (pd c), some (qd q0), some (qd M1), some (qd L1), some (.lst [.bl true, .bl false, .bl true, .bl false, .bl false, .bl true, .bl false, .bl false]), some BENT, none]) S2 := by
    simp [hcut, -r_bin]
  have s11 : denS Φ fuel (.asg (.nm 14) (.bin .add (.var 14) (.lst [(.call 104 [(.tup [(.cst (.str "needs")), (.var 5), (.var 10), (.var 12)]), (.var 15)]), (.call 104 [(.tup [(.cst (.str "below")), (.var 5), (.ix (.var 2) (.cst (.int 0))), (.tup [(.cst (.int 2)), (.cst (.int 1))])]), (.var 15)])]))) [some (.obj m), some (.int n), some (.str (txt l)), some (qd u), some (qd v), some RR, some (qd W), some OWN, some (.int at_), some (qd T), some (pd c), some (qd q0), some (qd M1), some (qd L1), some (.lst [.bl true, .bl false, .bl true, .bl false, .bl false, .bl true, .bl false, .bl false]), some BENT, none] S2 = .ok (.nx [some (.obj m), some (.int n), some (.str (txt l)), some (qd u), some (qd v), some RR, some (qd W), some OWN, some (.int at_), some (qd T), some (pd c), some (qd q0), some (qd M1), some (qd L1), some (.lst [.bl true, .bl false, .bl true, .bl false, .bl false, .bl true, .bl false, .bl false, .bl false, .bl false]), some BENT, none]) S2 := by
    simp [b1, b2', x3, line, -List.getD_eq_getElem?_getD]
  unfold h_law_path_right q_law_path_right
  simp only [runB_run, List.map_cons, List.map_nil, List.cons_append, List.nil_append, List.length_cons, List.length_nil, show List.replicate (17 - (0 + 1 + 1 + 1 + 1 + 1)) (none : Option D) = [none, none, none, none, none, none, none, none, none, none, none, none] from rfl, ss_cons, s1, s2, s3, s4, s5, s6, s7, s8, s9, s10, s11, nxt_nx]
  simp [rp']
end
end RF
end
section
set_option linter.all false
set_option maxRecDepth 100000
set_option maxHeartbeats 4000000
set_option autoImplicit false
/-! RfFork: one place with arrows to two ends (k78). -/
namespace RF
open PySem (Str)
def forkR (c0 c1 c2 : Nat) (x y : Rat) : Rows := [(c0, .arr [c1, c2]), (c1, .num x), (c2, .num y)]
def t3 (c0 c1 : Nat) (x y z : Rat) (c : Nat) : Rat := if c = c0 then x else if c = c1 then y else z
section
variable {Φ : Fns} {k c e t n c0 c1 c2 : Nat} {a b q s u v w x y z lo hi : Rat} {S S1 S2 : Sto} {d o : D} {l m ks js : List Nat} {i j : Int} {δ : En} {g : Nat → Rat}
theorem forkR_ok (h1 : c0 < c1) (h2 : c1 < c2) (l0 : isLet c0 = true) (l1 : isLet c1 = true) (l2 : isLet c2 = true) (hx : isPart x) (hy : isPart y) : RowsOk (forkR c0 c1 c2 x y) := by
  have mem : ∀ p ∈ forkR c0 c1 c2 x y, p = (c0, .arr [c1, c2]) ∨ p = (c1, .num x) ∨ p = (c2, .num y) := fun p hp => by simpa [forkR] using hp
  refine ⟨by unfold forkR; simp, fun p hp => ?_, fun p hp => ?_, pw_asc ?_, fun p hp l' hl' t ht => ?_, ?_⟩
  · rcases mem p hp with z | z | z <;> subst z <;> assumption
  · rcases mem p hp with z | z | z <;> subst z
    · exact ⟨by simp, by simp, by simp [l1, l2], pw_asc (by simp [h2])⟩
    · exact hx
    · exact hy
  · unfold forkR
    simp
    omega
  · rcases mem p hp with z | z | z <;> subst z
    · cases hl'
      unfold forkR
      have : t = c1 ∨ t = c2 := by simpa using ht
      simp
      omega
    · cases hl'
    · cases hl'
  · unfold lost
    have hall : ∀ p ∈ forkR c0 c1 c2 x y, p.1 ∈ homeAfter (forkR c0 c1 c2 x y) (forkR c0 c1 c2 x y).length := fun p hp => by
      refine home_all (fun c => if c = c0 then 1 else 0) (fun p hp => ?_) _ p hp ?_
      · rcases mem p hp with z | z | z <;> subst z
        · exact ⟨c1, by simp, .num x, by simp [forkR], by simp; omega⟩
        · trivial
        · trivial
      · show (if p.1 = c0 then 1 else 0) ≤ _
        split <;> simp [forkR]
    rw [List.filter_eq_nil_iff.mpr fun p hp => by simp [hall p hp]]
    rfl
theorem places_fork : places (forkR c0 c1 c2 x y) = [c0, c1, c2] := rfl
theorem t3_0 : t3 c0 c1 x y z c0 = x := by unfold t3; simp
theorem t3_1 (h : c0 < c1) : t3 c0 c1 x y z c1 = y := by unfold t3; rw [if_neg (by omega)]; simp
theorem t3_2 (h : c0 < c1) (h2 : c1 < c2) : t3 c0 c1 x y z c2 = z := by unfold t3; rw [if_neg (by omega), if_neg (by omega)]
theorem pap_fork (h1 : c0 < c1) (h2 : c1 < c2) : papD (forkR c0 c1 c2 lo hi) (t3 c0 c1 x y z) = .tup [qd x, qd y, qd z] := by
  unfold papD
  rw [places_fork]
  simp [t3_0, t3_1 h1, t3_2 h1 h2]
theorem tab_fork (h1 : c0 < c1) (h2 : c1 < c2) : tabB (forkR c0 c1 c2 lo hi) (t3 c0 c1 x y z) = (decide (x = (y + z) / 2) && (decide (y = lo) && decide (z = hi))) := by
  unfold tabB forkR
  simp [t3_0, t3_1 h1, t3_2 h1 h2, What.val, half2, Bool.and_assoc]
theorem what0 (h1 : c0 < c1) (h2 : c1 < c2) : whatAt (forkR c0 c1 c2 lo hi) c0 = .arr [c1, c2] := by unfold whatAt forkR; simp
theorem what1 (h1 : c0 < c1) (h2 : c1 < c2) : whatAt (forkR c0 c1 c2 lo hi) c1 = .num lo := by
  unfold whatAt forkR
  have : (c0 == c1) = false := by simp; omega
  simp [List.find?_cons, this]
theorem what2 (h1 : c0 < c1) (h2 : c1 < c2) : whatAt (forkR c0 c1 c2 lo hi) c2 = .num hi := by
  unfold whatAt forkR
  have h3 : (c0 == c2) = false := by simp; omega
  have h4 : (c1 == c2) = false := by simp; omega
  simp [List.find?_cons, h3, h4]
theorem iter1 (h1 : c0 < c1) (h2 : c1 < c2) : ∀ n, iterQ (forkR c0 c1 c2 lo hi) 1 n c1 = lo
  | 0 => by show (whatAt _ c1).val0 1 = _; rw [what1 h1 h2]; rfl
  | n + 1 => by show (whatAt _ c1).val _ = _; rw [what1 h1 h2]; rfl
theorem iter2 (h1 : c0 < c1) (h2 : c1 < c2) : ∀ n, iterQ (forkR c0 c1 c2 lo hi) 1 n c2 = hi
  | 0 => by show (whatAt _ c2).val0 1 = _; rw [what2 h1 h2]; rfl
  | n + 1 => by show (whatAt _ c2).val _ = _; rw [what2 h1 h2]; rfl
theorem iter00 (h1 : c0 < c1) (h2 : c1 < c2) : iterQ (forkR c0 c1 c2 lo hi) 1 0 c0 = 1 := by show (whatAt _ c0).val0 1 = _; rw [what0 h1 h2]; rfl
theorem iter0 (h1 : c0 < c1) (h2 : c1 < c2) (n : Nat) : iterQ (forkR c0 c1 c2 lo hi) 1 (n + 1) c0 = (lo + hi) / 2 := by
  show (whatAt _ c0).val _ = _
  rw [what0 h1 h2]
  show halfQ [c1, c2] _ = _
  rw [half2, iter1 h1 h2, iter2 h1 h2]
theorem all_fork (h1 : c0 < c1) (h2 : c1 < c2) (n : Nat) : ((places (forkR c0 c1 c2 lo hi)).all fun c => decide (t3 c0 c1 x lo hi c = iterQ (forkR c0 c1 c2 lo hi) 1 n c)) = decide (x = iterQ (forkR c0 c1 c2 lo hi) 1 n c0) := by
  rw [places_fork]
  simp [t3_0, t3_1 h1, t3_2 h1 h2, iter1 h1 h2, iter2 h1 h2]
theorem fold2 (f g : Rat) : foldQ minQ [f, g] = minQ f g ∧ foldQ maxQ [f, g] = maxQ f g := ⟨rfl, rfl⟩
theorem min_add_max (f g : Rat) : minQ f g + maxQ f g = f + g := by
  unfold minQ maxQ
  by_cases h1 : g < f
  · have h2 : ¬ f < g := by grind
    rw [if_pos h1, if_neg h2]
    grind
  · rw [if_neg h1]
    by_cases h2 : f < g
    · rw [if_pos h2]
    · rw [if_neg h2]
      grind
theorem mid2 (f g : Rat) : midQ [f, g] = (f + g) / 2 := by
  unfold midQ
  rw [(fold2 f g).1, (fold2 f g).2, min_add_max]
theorem part_min (hx : isPart x) (hy : isPart y) : isPart (minQ x y) := by unfold minQ; split <;> assumption
theorem part_max (hx : isPart x) (hy : isPart y) : isPart (maxQ x y) := by unfold maxQ; split <;> assumption
theorem safe_fork (h1 : c0 < c1) (h2 : c1 < c2) (hm : lo ≤ hi) : safeB (forkR c0 c1 c2 lo hi) (t3 c0 c1 x lo hi) c0 s b c1 = (!decide (s < b) && (decide (x < s) && (decide (hi - s < b) && decide (b < s - lo)))) := by
  unfold safeB
  rw [what0 h1 h2]
  have e : maxL [c1, c2] (t3 c0 c1 x lo hi) = hi := by
    unfold maxL
    simp only [List.map_cons, List.map_nil, List.foldl_cons, List.foldl_nil, t3_1 h1, t3_2 h1 h2]
    unfold maxQ
    split
    · rfl
    · grind
  dsimp only
  rw [e, t3_0, t3_1 h1]
  simp
end
end RF
end
section
set_option linter.all false
set_option maxRecDepth 100000
set_option maxHeartbeats 4000000
set_option autoImplicit false
/-! RfFork2: claims about one place with arrows to two ends are judged right (k78). -/
namespace RF
open PySem (Str)
section
variable {Φ : Fns} {k c e t n c0 c1 c2 : Nat} {a b q s u v w x y z : Rat} {S S1 S2 : Sto} {d o : D} {l m ks js : List Nat} {i j : Int} {δ : En} {g : Nat → Rat}
def ForkRight (f : List D → M D) : Prop := ∀ (S : Sto) (m : Nat) (l : List Nat) (u v : Rat), 3 ≤ l.length → l.length ≤ 10 → asc l = true → (∀ c ∈ l, isLet c = true) → isPart u → isPart v →
  f [.obj m, .str (txt l), qd u, qd v] S = .ok (.bl true) S
theorem fork_sz (hk : k ≤ 1900) {c0 c1 : Nat} {x y z : Rat} (hx : sz k x) (hy : sz k y) (hz : sz k z) : ∀ c, sz 1900 (t3 c0 c1 x y z c) := fun c => by
  unfold t3
  split
  · exact hx.mono hk
  · split
    · exact hy.mono hk
    · exact hz.mono hk
theorem forkRight_ok (hMin : FoldOk minQ (Φ.fn 2099)) (hMax : FoldOk maxQ (Φ.fn 2100)) (hMid : MidOk (Φ.fn 2101)) (hM : AddOk (· - ·) (Φ.fn 2105)) (hC : AccOk (Φ.fn 104)) : ForkRight (h_law_fork_right Φ) := by
  intro S m l u v hl h10 ha hlet hu hv
  have hpw := asc_pw ha
  have lt : ∀ i j, i < j → j < l.length → l.getD i 0 < l.getD j 0 := fun i j h1 h2 => by
    have := List.pairwise_iff_getElem.mp hpw i j (by omega) h2 h1
    simpa [List.getD, h2, show i < l.length by omega] using this
  have x0 := ixF_txt (S := S) (l := l) (k := 0) (by omega) (by omega)
  have x1 := ixF_txt (S := S) (l := l) (k := 1) (by omega) (by omega)
  have x2 := ixF_txt (S := S) (l := l) (k := 2) (by omega) (by omega)
  have h01 := lt 0 1 (by omega) (by omega)
  have h12 := lt 1 2 (by omega) (by omega)
  have l0 := hlet _ (getD_mem (l := l) (k := 0) (by omega))
  have l1 := hlet _ (getD_mem (l := l) (k := 1) (by omega))
  have l2 := hlet _ (getD_mem (l := l) (k := 2) (by omega))
  generalize l.getD 0 0 = c0 at x0 h01 l0
  generalize l.getD 1 0 = c1 at x1 h01 h12 l1
  generalize l.getD 2 0 = c2 at x2 h12 l2
  have x0 : ixF (.str (txt l)) (.int 0) S = .ok (pd c0) S := x0
  have x1 : ixF (.str (txt l)) (.int 1) S = .ok (pd c1) S := x1
  have x2 : ixF (.str (txt l)) (.int 2) S = .ok (pd c2) S := x2
  have f1 : Φ.fn 2099 [.lst [qd u, qd v]] S = .ok (qd (minQ u v)) S := hMin 64 [u, v] S (by decide) (by simp) (by simp [sz_part hu, sz_part hv])
  have f2 : Φ.fn 2100 [.lst [qd u, qd v]] S = .ok (qd (maxQ u v)) S := hMax 64 [u, v] S (by decide) (by simp) (by simp [sz_part hu, sz_part hv])
  have f3 : Φ.fn 2101 [.lst [qd u, qd v]] S = .ok (qd (midQ [u, v])) S := hMid 64 [u, v] S (by decide) (by simp) (by simp [sz_part hu, sz_part hv])
  have hmm : midQ [u, v] = (minQ u v + maxQ u v) / 2 := by rw [mid2, min_add_max]
  have hlo := part_min hu hv
  have hhi := part_max hu hv
  have hle : minQ u v ≤ maxQ u v := Rat.le_trans (minQ_le u v).1 (maxQ_le u v).1
  rw [hmm] at f3
  generalize minQ u v = lo at f1 f3 hlo hle
  generalize maxQ u v = hi at f2 f3 hhi hle
  obtain ⟨num, hnum⟩ : ∃ x, x = (lo + hi) / 2 := ⟨_, rfl⟩
  rw [← hnum] at f3
  have zlo := sz_part hlo
  have zhi := sz_part hhi
  have znum : sz 130 num := by rw [hnum]; exact sz_half (sz_add zlo zhi)
  have n0 : 0 ≤ num ∧ num ≤ 1 ∧ lo ≤ num ∧ num ≤ hi := by
    have := hlo.1
    have := hhi.1
    rw [hnum]
    refine ⟨?_, ?_, ?_, ?_⟩ <;> grind
  have hr := forkR_ok h01 h12 l0 l1 l2 hlo hhi
  obtain ⟨RR, hRR⟩ : ∃ x, x = rowsD (forkR c0 c1 c2 lo hi) := ⟨_, rfl⟩
  obtain ⟨NN, hNN⟩ : ∃ x, x = D.tup [qd 1, qd lo, qd hi] := ⟨_, rfl⟩
  obtain ⟨OO, hOO⟩ : ∃ x, x = D.tup [qd num, qd lo, qd hi] := ⟨_, rfl⟩
  have pN : papD (forkR c0 c1 c2 lo hi) (t3 c0 c1 1 lo hi) = NN := by rw [hNN]; exact pap_fork h01 h12
  have pO : papD (forkR c0 c1 c2 lo hi) (t3 c0 c1 num lo hi) = OO := by rw [hOO]; exact pap_fork h01 h12
  have zN := fork_sz (k := 130) (c0 := c0) (c1 := c1) (by decide) (sz_one (k := 130) (by decide)) (zlo.mono (by decide)) (zhi.mono (by decide))
  have zO := fork_sz (k := 130) (c0 := c0) (c1 := c1) (by decide) znum (zlo.mono (by decide)) (zhi.mono (by decide))
  have m0 : c0 ∈ places (forkR c0 c1 c2 lo hi) := by simp [places_fork]
  have m1 : c1 ∈ places (forkR c0 c1 c2 lo hi) := by simp [places_fork]
  have zI : ∀ i, ∀ c ∈ places (forkR c0 c1 c2 lo hi), sz 1900 (iterQ (forkR c0 c1 c2 lo hi) 1 i c) := fun i c hc => by
    have hc' : c = c0 ∨ c = c1 ∨ c = c2 := by simpa [places_fork] using hc
    rcases hc' with h | h | h <;> subst h
    · cases i with
      | zero => rw [iter00 h01 h12]; exact sz_one (by decide)
      | succ i => rw [iter0 h01 h12, ← hnum]; exact znum.mono (by decide)
    · rw [iter1 h01 h12]; exact zlo.mono (by decide)
    · rw [iter2 h01 h12]; exact zhi.mono (by decide)
  have znum' : sz 1900 num := znum.mono (by decide)
  have zone : sz 1900 (1 : Rat) := sz_one (by decide)
  have zlo' : sz 1900 lo := zlo.mono (by decide)
  have a1 := hC.within (forkR c0 c1 c2 lo hi) c0 0 1 [t3 c0 c1 1 lo hi] S hr m0 (by decide) zone (by simp; exact fun c _ => zN c) (fun i _ => zI i)
  have a2 := hC.within (forkR c0 c1 c2 lo hi) c0 1 num [t3 c0 c1 1 lo hi, t3 c0 c1 num lo hi] S hr m0 (by decide) znum' (by simp; exact ⟨fun c _ => zN c, fun c _ => zO c⟩) (fun i _ => zI i)
  have a3 := hC.within (forkR c0 c1 c2 lo hi) c0 2 num [t3 c0 c1 1 lo hi, t3 c0 c1 num lo hi, t3 c0 c1 num lo hi] S hr m0 (by decide) znum' (by simp; exact ⟨fun c _ => zN c, fun c _ => zO c⟩) (fun i _ => zI i)
  have a4 := hC.within (forkR c0 c1 c2 lo hi) c0 1 num [t3 c0 c1 num lo hi, t3 c0 c1 num lo hi] S hr m0 (by decide) znum' (by simp; exact fun c _ => zO c) (fun i _ => zI i)
  have a5 := hC.within (forkR c0 c1 c2 lo hi) c1 0 lo [t3 c0 c1 1 lo hi] S hr m1 (by decide) zlo' (by simp; exact fun c _ => zN c) (fun i _ => zI i)
  simp only [wthB, withinB, all_fork h01 h12, iter00 h01 h12, iter0 h01 h12, iter1 h01 h12, ← hnum, List.map_cons, List.map_nil, pN, pO, List.length_cons, List.length_nil, Nat.zero_add, decide_true, Bool.and_true, Bool.true_and, Nat.reduceAdd] at a1 a2 a3 a4 a5
  unfold claimD at a1 a2 a3 a4 a5
  rw [← hRR] at a1 a2 a3 a4 a5
  have a4 : num ≠ 1 → Φ.fn 104 [.tup [.str "within", RR, pd c0, .int 1, qd num], .tup [OO, OO]] S = .ok (.bl false) S := fun h => by
    rw [decide_eq_false h] at a4
    exact a4
  have a1 : Φ.fn 104 [.tup [.str "within", RR, pd c0, .int 0, .tup [.int 1, .int 1]], .tup [NN]] S = .ok (.bl true) S := a1
  have a2 : Φ.fn 104 [.tup [.str "within", RR, pd c0, .int 1, qd num], .tup [NN, OO]] S = .ok (.bl true) S := a2
  have a3 : Φ.fn 104 [.tup [.str "within", RR, pd c0, .int 2, qd num], .tup [NN, OO, OO]] S = .ok (.bl true) S := a3
  have a5 : Φ.fn 104 [.tup [.str "within", RR, pd c1, .int 0, qd lo], .tup [NN]] S = .ok (.bl true) S := a5
  have c_ne1 : cmpD .ne (qd num) (.tup [.int 1, .int 1]) S = .ok (.bl (!decide (num = 1))) S := c_neQ (b := 1)
  have c_eq1 : cmpD .eq (qd num) (.tup [.int 1, .int 1]) S = .ok (.bl (decide (num = 1))) S := c_eqQ (b := 1)
  have sh1 : showOk (boolsD [true, true, true, false, true]) = true := by decide +kernel
  have rp1 : biD .repr [.lst [.bl true, .bl true, .bl true, .bl false, .bl true]] S = .ok (.str (D.text (boolsD [true, true, true, false, true]))) S := repr_bools sh1
  have sh2 : showOk (boolsD [true, false, false]) = true := by decide +kernel
  have rp2 : biD .repr [.lst [.bl true, .bl false, .bl false]] S = .ok (.str (D.text (boolsD [true, false, false]))) S := repr_bools sh2
  -- bids
  obtain ⟨money, hmo⟩ : ∃ x, x = (num + 1) / 2 := ⟨_, rfl⟩
  have f4 : Φ.fn 2101 [.lst [qd num, .tup [.int 1, .int 1]]] S = .ok (qd money) S := by
    have h := hMid 130 [num, 1] S (by decide) (by simp) (by simp [znum, sz_one (k := 130) (by decide)])
    rw [mid2, ← hmo] at h
    exact h
  have zmo : sz 262 money := by rw [hmo]; exact sz_half (sz_add znum (sz_one (by decide)))
  obtain ⟨fr, hfr⟩ : ∃ x, x = hi - money := ⟨_, rfl⟩
  obtain ⟨to_, hto⟩ : ∃ x, x = money - lo := ⟨_, rfl⟩
  have f5 : Φ.fn 2105 [qd hi, qd money] S = .ok (qd fr) S := by rw [hfr]; exact hM 262 hi money S (by decide) (zhi.mono (by decide)) zmo
  have f6 : Φ.fn 2105 [qd money, qd lo] S = .ok (qd to_) S := by rw [hto]; exact hM 262 money lo S (by decide) zmo (zlo.mono (by decide))
  have zfr : sz 525 fr := by rw [hfr]; exact sz_sub (zhi.mono (by decide)) zmo
  have zto : sz 525 to_ := by rw [hto]; exact sz_sub zmo (zlo.mono (by decide))
  obtain ⟨lof, hlof⟩ : ∃ x, x = maxQ fr 0 := ⟨_, rfl⟩
  have f7 : Φ.fn 2100 [.lst [qd fr, .tup [.int 0, .int 1]]] S = .ok (qd lof) S := by
    rw [hlof]
    exact hMax 525 [fr, 0] S (by decide) (by simp) (by simp [zfr, sz_zero (k := 525) (by decide)])
  have zlof : sz 525 lof := by rw [hlof]; exact sz_max zfr (sz_zero (by decide))
  obtain ⟨off, hoff⟩ : ∃ x, x = (lof + to_) / 2 := ⟨_, rfl⟩
  have f8 : Φ.fn 2101 [.lst [qd lof, qd to_]] S = .ok (qd off) S := by
    have h := hMid 525 [lof, to_] S (by decide) (by simp) (by simp [zlof, zto])
    rw [mid2, ← hoff] at h
    exact h
  have zoff : sz 1052 off := by rw [hoff]; exact sz_half (sz_add zlof zto)
  have b2 : minQ to_ 1 = to_ := by
    unfold minQ
    rw [if_neg]
    have := hlo.1
    grind
  have f9 : Φ.fn 2099 [.lst [qd to_, .tup [.int 1, .int 1]]] S = .ok (qd to_) S := by
    have h := hMin 525 [to_, 1] S (by decide) (by simp) (by simp [zto, sz_one (k := 525) (by decide)])
    rw [(fold2 to_ 1).1, b2] at h
    exact h
  have lof0 : 0 ≤ lof ∧ fr ≤ lof ∧ (lof = fr ∨ lof = 0) := by
    rw [hlof]
    exact ⟨(maxQ_le fr 0).2, (maxQ_le fr 0).1, maxQ_or fr 0⟩
  have r0 := hlo.1
  have r1 := hhi.1
  have tO : tabB (forkR c0 c1 c2 lo hi) (t3 c0 c1 num lo hi) = true := by rw [tab_fork h01 h12]; simp [hnum]
  have a6 : num = 1 → Φ.fn 104 [.tup [.str "safe", RR, pd c0, .tup [.int 1, .int 1], .tup [.int 0, .int 1], pd c1], OO] S = .ok (.bl false) S := fun h1 => by
    have h := hC.safe (forkR c0 c1 c2 lo hi) (t3 c0 c1 num lo hi) c0 c1 1 0 S hr m0 m1 (fun c _ => zO c) zone (sz_zero (by decide)) (by decide +kernel) (by decide +kernel) (by decide +kernel) (by decide +kernel)
    rw [tO, safe_fork h01 h12 hle, pO] at h
    have e1 : ¬ num < 1 := by grind
    rw [decide_eq_false e1] at h
    unfold claimD at h
    rw [← hRR] at h
    simp only [Bool.false_and, Bool.and_false] at h
    exact h
  have s0 : 0 ≤ money := by grind
  have s1' : money ≤ 1 := by grind
  have tb : num ≠ 1 → 0 ≤ off ∧ off ≤ 1 ∧ ¬ money < off ∧ num < money ∧ hi - money < off ∧ off < money - lo := fun h1 => by
    have hlt : num < 1 := by grind
    rcases lof0.2.2 with e | e
    · refine ⟨?_, ?_, ?_, ?_, ?_, ?_⟩ <;> grind
    · refine ⟨?_, ?_, ?_, ?_, ?_, ?_⟩ <;> grind
  have a7 : num ≠ 1 → Φ.fn 104 [.tup [.str "safe", RR, pd c0, qd money, qd off, pd c1], OO] S = .ok (.bl true) S := fun h1 => by
    obtain ⟨t1, t2, t3', t4, t5, t6⟩ := tb h1
    have h := hC.safe (forkR c0 c1 c2 lo hi) (t3 c0 c1 num lo hi) c0 c1 money off S hr m0 m1 (fun c _ => zO c) (zmo.mono (by decide)) (zoff.mono (by decide)) s0 s1' t1 t2
    rw [tO, safe_fork h01 h12 hle, pO, decide_eq_false t3', decide_eq_true t4, decide_eq_true t5, decide_eq_true t6] at h
    unfold claimD at h
    rw [← hRR] at h
    exact h
  have a8 : Φ.fn 104 [.tup [.str "safe", RR, pd c0, qd money, qd to_, pd c1], OO] S = .ok (.bl false) S := by
    have h := hC.safe (forkR c0 c1 c2 lo hi) (t3 c0 c1 num lo hi) c0 c1 money to_ S hr m0 m1 (fun c _ => zO c) (zmo.mono (by decide)) (zto.mono (by decide)) s0 s1' (by grind) (by grind)
    have e1 : ¬ to_ < money - lo := by grind
    rw [tO, safe_fork h01 h12 hle, pO, decide_eq_false e1] at h
    unfold claimD at h
    rw [← hRR] at h
    simpa using h
  have a9 : 0 ≤ fr → Φ.fn 104 [.tup [.str "safe", RR, pd c0, qd money, qd lof, pd c1], OO] S = .ok (.bl false) S := fun h0 => by
    have e0 : lof = fr := by rcases lof0.2.2 with e | e <;> grind
    have h := hC.safe (forkR c0 c1 c2 lo hi) (t3 c0 c1 num lo hi) c0 c1 money lof S hr m0 m1 (fun c _ => zO c) (zmo.mono (by decide)) (zlof.mono (by decide)) s0 s1' (by grind) (by grind)
    have e1 : ¬ hi - money < lof := by grind
    rw [tO, safe_fork h01 h12 hle, pO, decide_eq_false e1] at h
    unfold claimD at h
    rw [← hRR] at h
    simpa using h
  have s1 : denS Φ fuel (.par [4, 5] [(.call 2099 [(.lst [(.var 2), (.var 3)])]), (.call 2100 [(.lst [(.var 2), (.var 3)])])]) [some (.obj m), some (.str (txt l)), some (qd u), some (qd v), none, none, none, none, none, none, none, none, none, none, none, none] S = .ok (.nx [some (.obj m), some (.str (txt l)), some (qd u), some (qd v), some (qd lo), some (qd hi), none, none, none, none, none, none, none, none, none, none]) S := by
    simp [f1, f2]
  have s2 : denS Φ fuel (.par [6, 7] [(.tup [(.tup [(.ix (.var 1) (.cst (.int 0))), (.tup [(.ix (.var 1) (.cst (.int 1))), (.ix (.var 1) (.cst (.int 2)))])]), (.tup [(.ix (.var 1) (.cst (.int 1))), (.var 4)]), (.tup [(.ix (.var 1) (.cst (.int 2))), (.var 5)])]), (.call 2101 [(.lst [(.var 2), (.var 3)])])]) [some (.obj m), some (.str (txt l)), some (qd u), some (qd v), some (qd lo), some (qd hi), none, none, none, none, none, none, none, none, none, none] S = .ok (.nx [some (.obj m), some (.str (txt l)), some (qd u), some (qd v), some (qd lo), some (qd hi), some RR, some (qd num), none, none, none, none, none, none, none, none]) S := by
    rw [hRR]
    simp [x0, x1, x2, f3]
    rfl
  have s3 : denS Φ fuel (.par [8, 9] [(.tup [(.tup [(.cst (.int 1)), (.cst (.int 1))]), (.var 4), (.var 5)]), (.tup [(.var 7), (.var 4), (.var 5)])]) [some (.obj m), some (.str (txt l)), some (qd u), some (qd v), some (qd lo), some (qd hi), some RR, some (qd num), none, none, none, none, none, none, none, none] S = .ok (.nx [some (.obj m), some (.str (txt l)), some (qd u), some (qd v), some (qd lo), some (qd hi), some RR, some (qd num), some NN, some OO, none, none, none, none, none, none]) S := by
    rw [hNN, hOO]
    simp
    rfl
  have s4 : denS Φ fuel (.asg (.nm 10) (.lst [(.call 104 [(.tup [(.cst (.str "within")), (.var 6), (.ix (.var 1) (.cst (.int 0))), (.cst (.int 0)), (.tup [(.cst (.int 1)), (.cst (.int 1))])]), (.tup [(.var 8)])])])) [some (.obj m), some (.str (txt l)), some (qd u), some (qd v), some (qd lo), some (qd hi), some RR, some (qd num), some NN, some OO, none, none, none, none, none, none] S = .ok (.nx [some (.obj m), some (.str (txt l)), some (qd u), some (qd v), some (qd lo), some (qd hi), some RR, some (qd num), some NN, some OO, some (.lst [.bl true]), none, none, none, none, none]) S := by
    simp [x0, a1]
  have s5 : denS Φ fuel (.app 10 (.call 104 [(.tup [(.cst (.str "within")), (.var 6), (.ix (.var 1) (.cst (.int 0))), (.cst (.int 1)), (.var 7)]), (.tup [(.var 8), (.var 9)])])) [some (.obj m), some (.str (txt l)), some (qd u), some (qd v), some (qd lo), some (qd hi), some RR, some (qd num), some NN, some OO, some (.lst [.bl true]), none, none, none, none, none] S = .ok (.nx [some (.obj m), some (.str (txt l)), some (qd u), some (qd v), some (qd lo), some (qd hi), some RR, some (qd num), some NN, some OO, some (.lst [.bl true, .bl true]), none, none, none, none, none]) S := by
    simp [x0, a2, line]
  have s6 : denS Φ fuel (.app 10 (.call 104 [(.tup [(.cst (.str "within")), (.var 6), (.ix (.var 1) (.cst (.int 0))), (.cst (.int 2)), (.var 7)]), (.tup [(.var 8), (.var 9), (.var 9)])])) [some (.obj m), some (.str (txt l)), some (qd u), some (qd v), some (qd lo), some (qd hi), some RR, some (qd num), some NN, some OO, some (.lst [.bl true, .bl true]), none, none, none, none, none] S = .ok (.nx [some (.obj m), some (.str (txt l)), some (qd u), some (qd v), some (qd lo), some (qd hi), some RR, some (qd num), some NN, some OO, some (.lst [.bl true, .bl true, .bl true]), none, none, none, none, none]) S := by
    simp [x0, a3, line]
  have s7 : denS Φ fuel (.app 10 (.and [(.cmp .ne (.var 7) (.tup [(.cst (.int 1)), (.cst (.int 1))])), (.call 104 [(.tup [(.cst (.str "within")), (.var 6), (.ix (.var 1) (.cst (.int 0))), (.cst (.int 1)), (.var 7)]), (.tup [(.var 9), (.var 9)])])])) [some (.obj m), some (.str (txt l)), some (qd u), some (qd v), some (qd lo), some (qd hi), some RR, some (qd num), some NN, some OO, some (.lst [.bl true, .bl true, .bl true]), none, none, none, none, none] S = .ok (.nx [some (.obj m), some (.str (txt l)), some (qd u), some (qd v), some (qd lo), some (qd hi), some RR, some (qd num), some NN, some OO, some (.lst [.bl true, .bl true, .bl true, .bl false]), none, none, none, none, none]) S := by
    by_cases h1 : num = 1
    · have y := c_ne1
      rw [decide_eq_true h1] at y
      simp [y, line]
    · have y := c_ne1
      rw [decide_eq_false h1] at y
      have a4 := a4 h1
      simp [y, x0, a4, line]
  have s8 : denS Φ fuel (.app 10 (.call 104 [(.tup [(.cst (.str "within")), (.var 6), (.ix (.var 1) (.cst (.int 1))), (.cst (.int 0)), (.var 4)]), (.tup [(.var 8)])])) [some (.obj m), some (.str (txt l)), some (qd u), some (qd v), some (qd lo), some (qd hi), some RR, some (qd num), some NN, some OO, some (.lst [.bl true, .bl true, .bl true, .bl false]), none, none, none, none, none] S = .ok (.nx [some (.obj m), some (.str (txt l)), some (qd u), some (qd v), some (qd lo), some (qd hi), some RR, some (qd num), some NN, some OO, some (.lst [.bl true, .bl true, .bl true, .bl false, .bl true]), none, none, none, none, none]) S := by
    simp [x1, a5, line]
  have s9 : denS Φ fuel (.iff (.cmp .ne (.bi .repr [(.var 10)]) (.bi .repr [(.lst [(.cst (.bl true)), (.cst (.bl true)), (.cst (.bl true)), (.cst (.bl false)), (.cst (.bl true))])])) [(.ret (some (.cst (.bl false))))] []) [some (.obj m), some (.str (txt l)), some (qd u), some (qd v), some (qd lo), some (qd hi), some RR, some (qd num), some NN, some OO, some (.lst [.bl true, .bl true, .bl true, .bl false, .bl true]), none, none, none, none, none] S = .ok (.nx [some (.obj m), some (.str (txt l)), some (qd u), some (qd v), some (qd lo), some (qd hi), some RR, some (qd num), some NN, some OO, some (.lst [.bl true, .bl true, .bl true, .bl false, .bl true]), none, none, none, none, none]) S := by
    simp [rp1]
  have s10 : denS Φ fuel (.asg (.nm 11) (.call 2101 [(.lst [(.var 7), (.tup [(.cst (.int 1)), (.cst (.int 1))])])])) [some (.obj m), some (.str (txt l)), some (qd u), some (qd v), some (qd lo), some (qd hi), some RR, some (qd num), some NN, some OO, some (.lst [.bl true, .bl true, .bl true, .bl false, .bl true]), none, none, none, none, none] S = .ok (.nx [some (.obj m), some (.str (txt l)), some (qd u), some (qd v), some (qd lo), some (qd hi), some RR, some (qd num), some NN, some OO, some (.lst [.bl true, .bl true, .bl true, .bl false, .bl true]), some (qd money), none, none, none, none]) S := by
    simp [f4]
  have s11 : num ≠ 1 → denS Φ fuel (.iff (.cmp .eq (.var 7) (.tup [(.cst (.int 1)), (.cst (.int 1))])) [(.ret (some (.not (.call 104 [(.tup [(.cst (.str "safe")), (.var 6), (.ix (.var 1) (.cst (.int 0))), (.tup [(.cst (.int 1)), (.cst (.int 1))]), (.tup [(.cst (.int 0)), (.cst (.int 1))]), (.ix (.var 1) (.cst (.int 1)))]), (.var 9)]))))] []) [some (.obj m), some (.str (txt l)), some (qd u), some (qd v), some (qd lo), some (qd hi), some RR, some (qd num), some NN, some OO, some (.lst [.bl true, .bl true, .bl true, .bl false, .bl true]), some (qd money), none, none, none, none] S = .ok (.nx [some (.obj m), some (.str (txt l)), some (qd u), some (qd v), some (qd lo), some (qd hi), some RR, some (qd num), some NN, some OO, some (.lst [.bl true, .bl true, .bl true, .bl false, .bl true]), some (qd money), none, none, none, none]) S := fun h1 => by
    have y := c_eq1
    rw [decide_eq_false h1] at y
    simp [y]
  have s11' : num = 1 → denS Φ fuel (.iff (.cmp .eq (.var 7) (.tup [(.cst (.int 1)), (.cst (.int 1))])) [(.ret (some (.not (.call 104 [(.tup [(.cst (.str "safe")), (.var 6), (.ix (.var 1) (.cst (.int 0))), (.tup [(.cst (.int 1)), (.cst (.int 1))]), (.tup [(.cst (.int 0)), (.cst (.int 1))]), (.ix (.var 1) (.cst (.int 1)))]), (.var 9)]))))] []) [some (.obj m), some (.str (txt l)), some (qd u), some (qd v), some (qd lo), some (qd hi), some RR, some (qd num), some NN, some OO, some (.lst [.bl true, .bl true, .bl true, .bl false, .bl true]), some (qd money), none, none, none, none] S = .ok (.rt (.bl true)) S := fun h1 => by
    have y := c_eq1
    rw [decide_eq_true h1] at y
    have a6 := a6 h1
    simp [y, x0, x1, a6]
  have s12 : denS Φ fuel (.par [12, 13] [(.call 2105 [(.var 5), (.var 11)]), (.call 2105 [(.var 11), (.var 4)])]) [some (.obj m), some (.str (txt l)), some (qd u), some (qd v), some (qd lo), some (qd hi), some RR, some (qd num), some NN, some OO, some (.lst [.bl true, .bl true, .bl true, .bl false, .bl true]), some (qd money), none, none, none, none] S = .ok (.nx [some (.obj m), some (.str (txt l)), some (qd u), some (qd v), some (qd lo), some (qd hi), some RR, some (qd num), some NN, some OO, some (.lst [.bl true, .bl true, .bl true, .bl false, .bl true]), some (qd money), some (qd fr), some (qd to_), none, none]) S := by
    simp [f5, f6]
  have s13 : denS Φ fuel (.asg (.nm 14) (.call 2101 [(.lst [(.call 2100 [(.lst [(.var 12), (.tup [(.cst (.int 0)), (.cst (.int 1))])])]), (.var 13)])])) [some (.obj m), some (.str (txt l)), some (qd u), some (qd v), some (qd lo), some (qd hi), some RR, some (qd num), some NN, some OO, some (.lst [.bl true, .bl true, .bl true, .bl false, .bl true]), some (qd money), some (qd fr), some (qd to_), none, none] S = .ok (.nx [some (.obj m), some (.str (txt l)), some (qd u), some (qd v), some (qd lo), some (qd hi), some RR, some (qd num), some NN, some OO, some (.lst [.bl true, .bl true, .bl true, .bl false, .bl true]), some (qd money), some (qd fr), some (qd to_), some (qd off), none]) S := by
    simp [f7, f8]
  have s14 : num ≠ 1 → denS Φ fuel (.asg (.nm 10) (.lst [(.call 104 [(.tup [(.cst (.str "safe")), (.var 6), (.ix (.var 1) (.cst (.int 0))), (.var 11), (.var 14), (.ix (.var 1) (.cst (.int 1)))]), (.var 9)])])) [some (.obj m), some (.str (txt l)), some (qd u), some (qd v), some (qd lo), some (qd hi), some RR, some (qd num), some NN, some OO, some (.lst [.bl true, .bl true, .bl true, .bl false, .bl true]), some (qd money), some (qd fr), some (qd to_), some (qd off), none] S = .ok (.nx [some (.obj m), some (.str (txt l)), some (qd u), some (qd v), some (qd lo), some (qd hi), some RR, some (qd num), some NN, some OO, some (.lst [.bl true]), some (qd money), some (qd fr), some (qd to_), some (qd off), none]) S := fun h1 => by
    have a7 := a7 h1
    simp [x0, x1, a7]
  have s15 : denS Φ fuel (.app 10 (.call 104 [(.tup [(.cst (.str "safe")), (.var 6), (.ix (.var 1) (.cst (.int 0))), (.var 11), (.call 2099 [(.lst [(.var 13), (.tup [(.cst (.int 1)), (.cst (.int 1))])])]), (.ix (.var 1) (.cst (.int 1)))]), (.var 9)])) [some (.obj m), some (.str (txt l)), some (qd u), some (qd v), some (qd lo), some (qd hi), some RR, some (qd num), some NN, some OO, some (.lst [.bl true]), some (qd money), some (qd fr), some (qd to_), some (qd off), none] S = .ok (.nx [some (.obj m), some (.str (txt l)), some (qd u), some (qd v), some (qd lo), some (qd hi), some RR, some (qd num), some NN, some OO, some (.lst [.bl true, .bl false]), some (qd money), some (qd fr), some (qd to_), some (qd off), none]) S := by
    simp [x0, x1, f9, a8, line]
  have s16 : denS Φ fuel (.asg (.nm 15) (.call 2100 [(.lst [(.var 12), (.tup [(.cst (.int 0)), (.cst (.int 1))])])])) [some (.obj m), some (.str (txt l)), some (qd u), some (qd v), some (qd lo), some (qd hi), some RR, some (qd num), some NN, some OO, some (.lst [.bl true, .bl false]), some (qd money), some (qd fr), some (qd to_), some (qd off), none] S = .ok (.nx [some (.obj m), some (.str (txt l)), some (qd u), some (qd v), some (qd lo), some (qd hi), some RR, some (qd num), some NN, some OO, some (.lst [.bl true, .bl false]), some (qd money), some (qd fr), some (qd to_), some (qd off), some (qd lof)]) S := by
    simp [f7]
  have s17 : denS Φ fuel (.app 10 (.and [(.cmp .ge (.ix (.var 12) (.cst (.int 0))) (.cst (.int 0))), (.call 104 [(.tup [(.cst (.str "safe")), (.var 6), (.ix (.var 1) (.cst (.int 0))), (.var 11), (.var 15), (.ix (.var 1) (.cst (.int 1)))]), (.var 9)])])) [some (.obj m), some (.str (txt l)), some (qd u), some (qd v), some (qd lo), some (qd hi), some RR, some (qd num), some NN, some OO, some (.lst [.bl true, .bl false]), some (qd money), some (qd fr), some (qd to_), some (qd off), some (qd lof)] S = .ok (.nx [some (.obj m), some (.str (txt l)), some (qd u), some (qd v), some (qd lo), some (qd hi), some RR, some (qd num), some NN, some OO, some (.lst [.bl true, .bl false, .bl false]), some (qd money), some (qd fr), some (qd to_), some (qd off), some (qd lof)]) S := by
    have y0 : ixF (qd fr) (.int 0) S = .ok (.int fr.num) S := ixF_T0
    by_cases h0 : 0 ≤ fr
    · have a9 := a9 h0
      have h0' : 0 ≤ fr.num := Rat.num_nonneg.mpr h0
      simp [y0, h0', x0, x1, a9, line]
    · have h0' : ¬ 0 ≤ fr.num := fun z => h0 (Rat.num_nonneg.mp z)
      simp [y0, h0', line]
  unfold h_law_fork_right q_law_fork_right
  simp only [runB_run, List.map_cons, List.map_nil, List.cons_append, List.nil_append, List.length_cons, List.length_nil, show List.replicate (16 - (0 + 1 + 1 + 1 + 1)) (none : Option D) = [none, none, none, none, none, none, none, none, none, none, none, none] from rfl, ss_cons, s1, s2, s3, s4, s5, s6, s7, s8, s9, s10, nxt_nx]
  by_cases h1 : num = 1
  · simp only [s11' h1, nxt_rt, ret_rt, ss_cons]
  · simp only [s11 h1, s12, s13, s14 h1, s15, s16, s17, nxt_nx, ss_cons]
    simp [rp2]
end
end RF
end
section
set_option linter.all false
set_option maxRecDepth 100000
set_option maxHeartbeats 4000000
set_option autoImplicit false
/-! RfAll: a law that asks by each of some urns. -/
namespace RF
open PySem (Str)
def RightOk (f : List D → M D) : Prop := ∀ (S : Sto) (m : Nat), UrnAt S m → ∃ S', Moves m S S' ∧ f [.obj m] S = .ok (.bl true) S'
theorem RightOk.cast {f g : List D → M D} (h : RightOk f) (e : f = g) : RightOk g := e ▸ h
section
variable {Φ : Fns} {S : Sto} {h : D → M (Option D)}
theorem comp_true : ∀ {items : List D}, (∀ d ∈ items, ∀ S, ∃ S', h d S = .ok (some (.bl true)) S') → ∀ S, ∃ S', compL h items S = .ok (items.map fun _ => .bl true) S'
  | [], _, S => ⟨S, rfl⟩
  | d :: items, hd, S => by
    obtain ⟨S1, e1⟩ := hd d (by simp) S
    obtain ⟨S2, e2⟩ := comp_true (fun x hx => hd x (List.mem_cons_of_mem _ hx)) S1
    refine ⟨S2, ?_⟩
    rw [comp_cons, e1, go_ok, e2]
    rfl
theorem all_true (l : List D) : blsOf (l.map fun _ => D.bl true) = some (l.map fun _ => true) := by
  induction l with
  | nil => rfl
  | cons x l ih =>
    show (blsOf (l.map fun _ => D.bl true)).map _ = _
    rw [ih]
    rfl
/-- all([right(urn(script, k)) for k in range(max(2, min(len(script), K)))]) -/
def lawB (R U : Nat) (K : Int) : List RF.S := [(.ret (some (.bi .all [(.comp (.call R [(.mkx (.call U [(.var 0), (.var 1)]))]) (.nm 1) .range1 [(.bi .max [(.cst (.int 2)), (.bi .min [(.bi .len [(.var 0)]), (.cst (.int K))])])] [] [1])])))]
theorem law_all {R U : Nat} {K : Int} (hR : RightOk (Φ.fn R)) (hU : NewUrn (Φ.fn U)) (hK : 0 ≤ K) (hK2 : K ≤ 100) (ns : List Int) (hn : ns.length ≤ 63) : ∃ S', runB (denSs Φ fuel (lawB R U K)) 2 [.frz (ns.map D.int)] [] = .ok (.bl true) S' := by
  obtain ⟨c, hc, hc2⟩ : ∃ c : Nat, (c : Int) = (if (if K < (ns.length : Int) then K else (ns.length : Int)) > 2 then (if K < (ns.length : Int) then K else (ns.length : Int)) else 2) ∧ c ≤ 101 := by
    refine ⟨(if (if K < (ns.length : Int) then K else (ns.length : Int)) > 2 then (if K < (ns.length : Int) then K else (ns.length : Int)) else 2).toNat, ?_, ?_⟩ <;> (split <;> split <;> omega)
  have i1 : itemsOf .range1 [.int (c : Int)] = some ((List.range' 0 c).map fun i : Nat => D.int (i : Int)) := items_rangeN (by omega)
  have hh : ∀ d ∈ (List.range' 0 c).map (fun i : Nat => D.int (i : Int)), ∀ S, ∃ S', kF Φ (.nm 1) [] (.call R [(.mkx (.call U [(.var 0), (.var 1)]))]) [1] [some (.frz (ns.map D.int)), none] d S = .ok (some (.bl true)) S' := by
    intro d hd S
    obtain ⟨k, hk, rfl⟩ := List.mem_map.mp hd
    have hk' : k < c := by
      have := List.mem_range'.mp hk
      omega
    obtain ⟨a, b, h1, h2, h3, e1⟩ := hU ns k S hn (by omega)
    obtain ⟨S', _, e2⟩ := hR (S ++ [.lst [.int a, .int b]]) S.length ⟨a, b, by simp, h1, h2, h3⟩
    refine ⟨S', ?_⟩
    simp [kF_run, wipe, e1, e2]
  obtain ⟨S', e1⟩ := comp_true hh []
  refine ⟨S', ?_⟩
  have e2 : ((ns.map D.int).length : Int) = ns.length := by simp
  have hl : ((List.range' 0 c).map fun i : Nat => D.int (i : Int)).length < line := by simp [line]; omega
  have e3 := f_all (s := S') (all_true ((List.range' 0 c).map fun i : Nat => D.int (i : Int)))
  have e4 : ((((List.range' 0 c).map fun i : Nat => D.int (i : Int)).map fun _ => true).all id) = true := by simp
  rw [e4] at e3
  unfold lawB
  simp only [runB_run, List.map_cons, List.map_nil, List.cons_append, List.nil_append, List.length_cons, List.length_nil, show List.replicate (2 - (0 + 1)) (none : Option D) = [none] from rfl, ss_cons, s_ret, r_bi, rs_cons, rs_nil, r_comp, r_var, r_cst, getV_run, List.getElem?_cons_zero, go_ok, f_lenF, f_min, f_max, e2, ← hc, i1, ofO_some, e1, if_pos hl, e3, nxt_rt, ret_rt]
theorem right57_ok (hD : DipOk (Φ.fn 2085)) (hP : DrawsPart (Φ.fn 2094)) (hL : DrawsLetters (Φ.fn 2086)) (h1 : PathRight (Φ.fn 2204)) (h2 : ForkRight (Φ.fn 2205)) : RightOk (h_law_right57 Φ) := by
  intro S m hS
  obtain ⟨d, S1, hd, m1, e1⟩ := hD S m 6 hS (by decide) (by decide)
  have e1' : Φ.fn 2085 [.obj m, .int 6] S = .ok (.int d) S1 := e1
  obtain ⟨u, S2, hu, m2, e2⟩ := hP S1 m m1.1
  obtain ⟨v, S3, hv, m3, e3⟩ := hP S2 m m2.1
  obtain ⟨l, S4, hl, ha, hlet, m4, e4⟩ := hL S3 m (1 + d + 2) m3.1 (by omega)
  have e4' : Φ.fn 2086 [.obj m, .int ((1 : Int) + d + 2)] S3 = .ok (.str (txt l)) S4 := by
    rw [show ((1 : Int) + d + 2) = ((1 + d + 2 : Nat) : Int) by omega]
    exact e4
  obtain ⟨S5, m5, e5⟩ := h1 S4 m (1 + d) l u v m4.1 (by omega) (by omega) (by omega) ha hlet hu hv
  have e5' : Φ.fn 2204 [.obj m, .int ((1 : Int) + d), .str (txt l), qd u, qd v] S4 = .ok (.bl true) S5 := by
    rw [show ((1 : Int) + d) = ((1 + d : Nat) : Int) by omega]
    exact e5
  have e6 := h2 S5 m l u v (by omega) (by omega) ha hlet hu hv
  refine ⟨S5, (((m1.trans m2).trans m3).trans m4).trans m5, ?_⟩
  unfold h_law_right57 q_law_right57
  simp [runB_run, e1', e2, e3, e4', e5', e6]
end
end RF
end
section
set_option linter.all false
set_option maxRecDepth 100000
set_option maxHeartbeats 4000000
set_option autoImplicit false
/-! RfNone: claims that are none (k77). -/
namespace RF
open PySem (Str)
def F3 : D := .tup [.tup [.str "a", .tup [.str "b", .str "c"]], .tup [.str "b", .tup [.int 0, .int 1]], .tup [.str "c", .tup [.int 1, .int 1]]]
def OWN3 : D := .tup [.tup [.int 1, .int 2], .tup [.int 0, .int 1], .tup [.int 1, .int 1]]
def SHEETS : List D := [.tup [.tup [.int 1, .int 2], .tup [.int 0, .int 1], .tup [.int 1, .int 1]], .tup [.tup [.tup [.int 1, .int 1], .tup [.int 0, .int 1], .tup [.int 1, .int 1]], .tup [.tup [.int 1, .int 2], .tup [.int 0, .int 1], .tup [.int 1, .int 1]]], .tup [.tup [.tup [.int 1, .int 1], .tup [.int 0, .int 1], .tup [.int 1, .int 1]]], .tup [], .non, .tup [.tup [.int 0, .int 1]], .tup [.tup [.int 1, .int 1]], .tup [.tup [.int 0, .int 1], .tup [.int 0, .int 1]], .tup [.tup [.int 1, .int 2]]]
def LNONE : List D := [.tup [.str "needs", .tup [.tup [.str "a", .tup [.str "b", .str "c"]], .tup [.str "b", .tup [.int 0, .int 1]], .tup [.str "c", .tup [.int 1, .int 1]]], .str "a"], .tup [.str "needs", .tup [.tup [.str "a", .tup [.str "b", .str "c"]], .tup [.str "b", .tup [.int 0, .int 1]], .tup [.str "c", .tup [.int 1, .int 1]]], .str "a", .tup [.int 1, .int 2], .int 0], .lst [.str "needs", .tup [.tup [.str "a", .tup [.str "b", .str "c"]], .tup [.str "b", .tup [.int 0, .int 1]], .tup [.str "c", .tup [.int 1, .int 1]]], .str "a", .tup [.int 1, .int 2]], .tup [.str "need", .tup [.tup [.str "a", .tup [.str "b", .str "c"]], .tup [.str "b", .tup [.int 0, .int 1]], .tup [.str "c", .tup [.int 1, .int 1]]], .str "a", .tup [.int 1, .int 2]], .tup [.str "needs", .tup [.tup [.str "a", .tup [.str "b", .str "c"]], .tup [.str "b", .tup [.int 0, .int 1]], .tup [.str "c", .tup [.int 1, .int 1]]], .str "z", .tup [.int 1, .int 2]], .tup [.str "needs", .tup [.tup [.str "a", .tup [.str "b", .str "c"]], .tup [.str "b", .tup [.int 0, .int 1]], .tup [.str "c", .tup [.int 1, .int 1]]], .non, .tup [.int 1, .int 2]], .tup [.str "needs", .tup [.tup [.str "a", .tup [.str "b", .str "c"]], .tup [.str "b", .tup [.int 0, .int 1]], .tup [.str "c", .tup [.int 1, .int 1]]], .str "a", .tup [.int 2, .int 4]], .tup [.str "needs", .tup [.tup [.str "a", .tup [.str "b", .str "c"]], .tup [.str "b", .tup [.int 0, .int 1]], .tup [.str "c", .tup [.int 1, .int 1]]], .str "a", .int 1], .tup [.str "above", .tup [.tup [.str "a", .tup [.str "b", .str "c"]], .tup [.str "b", .tup [.int 0, .int 1]], .tup [.str "c", .tup [.int 1, .int 1]]], .str "a", .tup [.int 1, .int 0]], .tup [.str "below", .tup [.tup [.str "a", .tup [.str "b", .str "c"]], .tup [.str "b", .tup [.int 0, .int 1]], .tup [.str "c", .tup [.int 1, .int 1]]], .str "a", .lst [.int 2, .int 3]], .tup [.str "above", .tup [.tup [.str "a", .tup [.str "b", .str "c"]], .tup [.str "b", .tup [.int 0, .int 1]], .tup [.str "c", .tup [.int 1, .int 1]]], .tup [.str "a"], .tup [.int 0, .int 1]], .tup [.str "needs", .str "a", .tup [.tup [.str "a", .tup [.str "b", .str "c"]], .tup [.str "b", .tup [.int 0, .int 1]], .tup [.str "c", .tup [.int 1, .int 1]]], .tup [.int 1, .int 2]], .tup [.str "within", .tup [.tup [.str "a", .tup [.str "b", .str "c"]], .tup [.str "b", .tup [.int 0, .int 1]], .tup [.str "c", .tup [.int 1, .int 1]]], .str "a", .int 1], .tup [.str "within", .tup [.tup [.str "a", .tup [.str "b", .str "c"]], .tup [.str "b", .tup [.int 0, .int 1]], .tup [.str "c", .tup [.int 1, .int 1]]], .str "a", .int (-1), .tup [.int 1, .int 1]], .tup [.str "within", .tup [.tup [.str "a", .tup [.str "b", .str "c"]], .tup [.str "b", .tup [.int 0, .int 1]], .tup [.str "c", .tup [.int 1, .int 1]]], .str "a", .int 61, .tup [.int 1, .int 2]], .tup [.str "within", .tup [.tup [.str "a", .tup [.str "b", .str "c"]], .tup [.str "b", .tup [.int 0, .int 1]], .tup [.str "c", .tup [.int 1, .int 1]]], .str "a", .bl true, .tup [.int 1, .int 2]], .tup [.str "within", .tup [.tup [.str "a", .tup [.str "b", .str "c"]], .tup [.str "b", .tup [.int 0, .int 1]], .tup [.str "c", .tup [.int 1, .int 1]]], .str "a", .int 0, .int 1], .tup [.str "within", .tup [.tup [.str "a", .tup [.str "b", .str "c"]], .tup [.str "b", .tup [.int 0, .int 1]], .tup [.str "c", .tup [.int 1, .int 1]]], .str "a", .str "0", .tup [.int 1, .int 1]], .tup [.str "within", .tup [.tup [.str "a", .tup [.str "b", .str "c"]], .tup [.str "b", .tup [.int 0, .int 1]], .tup [.str "c", .tup [.int 1, .int 1]]], .str "a", .tup [.int 1, .int 1], .int 0], .tup [.str "Needs", .tup [.tup [.str "a", .tup [.str "b", .str "c"]], .tup [.str "b", .tup [.int 0, .int 1]], .tup [.str "c", .tup [.int 1, .int 1]]], .str "a", .tup [.int 1, .int 2]], .tup [.str "safe", .tup [.tup [.str "a", .tup [.str "b", .str "c"]], .tup [.str "b", .tup [.int 0, .int 1]], .tup [.str "c", .tup [.int 1, .int 1]]], .str "a", .tup [.int 3, .int 4], .tup [.int 1, .int 2]], .tup [.str "safe", .tup [.tup [.str "a", .tup [.str "b", .str "c"]], .tup [.str "b", .tup [.int 0, .int 1]], .tup [.str "c", .tup [.int 1, .int 1]]], .str "a", .tup [.int 3, .int 2], .tup [.int 1, .int 2], .str "b"], .tup [.str "safe", .tup [.tup [.str "a", .tup [.str "b", .str "c"]], .tup [.str "b", .tup [.int 0, .int 1]], .tup [.str "c", .tup [.int 1, .int 1]]], .str "a", .tup [.int 3, .int 4], .tup [.int (-1), .int 2], .str "b"], .tup [.str "safe", .tup [.tup [.str "a", .tup [.str "b", .str "c"]], .tup [.str "b", .tup [.int 0, .int 1]], .tup [.str "c", .tup [.int 1, .int 1]]], .str "a", .tup [.int 3, .int 4], .tup [.int 1, .int 2], .str "z"], .tup [.str "safe", .tup [.tup [.str "a", .tup [.str "b", .str "c"]], .tup [.str "b", .tup [.int 0, .int 1]], .tup [.str "c", .tup [.int 1, .int 1]]], .str "a", .tup [.int 3, .int 4], .tup [.int 1, .int 2], .non], .tup [.str "safe", .tup [.tup [.str "a", .tup [.str "b", .str "c"]], .tup [.str "b", .tup [.int 0, .int 1]], .tup [.str "c", .tup [.int 1, .int 1]]], .str "a", .int 1, .tup [.int 1, .int 2], .str "b"], .non, .int 5, .str "needs", .tup [], .lst [], .dct [], .tup [.tup [.str "needs"], .tup [.tup [.str "a", .tup [.str "b", .str "c"]], .tup [.str "b", .tup [.int 0, .int 1]], .tup [.str "c", .tup [.int 1, .int 1]]], .str "a", .tup [.int 1, .int 2]], .tup [.str "needs"], .tup [.tup [.str "a", .tup [.str "b", .str "c"]], .tup [.str "b", .tup [.int 0, .int 1]], .tup [.str "c", .tup [.int 1, .int 1]]], .bl true, .tup [.str "", .tup [.tup [.str "a", .tup [.str "b", .str "c"]], .tup [.str "b", .tup [.int 0, .int 1]], .tup [.str "c", .tup [.int 1, .int 1]]], .str "a", .tup [.int 1, .int 2]]]
def LROWS : List D := [.tup [], .non, .lst [.tup [.str "a", .tup [.int 0, .int 1]]], .tup [.tup [.str "a", .tup [.int 0, .int 1]], .tup [.str "a", .tup [.int 1, .int 1]]], .tup [.tup [.str "b", .tup [.int 0, .int 1]], .tup [.str "a", .tup [.int 0, .int 1]]], .tup [.tup [.str "a", .tup [.str "b"]], .tup [.str "b", .tup [.str "a"]]], .tup [.tup [.str "a", .tup [.str "c"]], .tup [.str "b", .tup [.int 0, .int 1]]], .tup [.tup [.str "a", .tup [.int 2, .int 4]]], .tup [.tup [.str "a", .tup [.int 3, .int 2]]], .tup [.tup [.str "a", .tup [.int 1, .int 1000000000001]]], .tup [.tup [.str "a", .tup []]], .tup [.tup [.str "a", .lst [.str "b"]], .tup [.str "b", .tup [.int 0, .int 1]]], .tup [.tup [.str "A", .tup [.int 0, .int 1]]], .tup [.tup [.str "a", .tup [.str "b", .str "b"]], .tup [.str "b", .tup [.int 0, .int 1]]], .tup [.tup [.str "a", .tup [.int 0, .int 1], .int 0]], .tup [.lst [.str "a", .tup [.int 0, .int 1]]], .tup [.tup [.str "ab", .tup [.int 0, .int 1]]], .tup [.tup [.str "a", .tup [.str "c", .str "b"]], .tup [.str "b", .tup [.int 0, .int 1]], .tup [.str "c", .tup [.int 1, .int 1]]], .tup [.tup [.str "a", .tup [.bl true, .int 1]]], .tup [.tup [.str "a", .str "b"], .tup [.str "b", .tup [.int 0, .int 1]]], .tup [.tup [.str "a", .tup [.int 0, .int 1]], .tup [.str "b", .tup [.int 0, .int 1]], .tup [.str "c", .tup [.int 0, .int 1]], .tup [.str "d", .tup [.int 0, .int 1]], .tup [.str "e", .tup [.int 0, .int 1]], .tup [.str "f", .tup [.int 0, .int 1]], .tup [.str "g", .tup [.int 0, .int 1]], .tup [.str "h", .tup [.int 0, .int 1]], .tup [.str "i", .tup [.int 0, .int 1]], .tup [.str "j", .tup [.int 0, .int 1]], .tup [.str "k", .tup [.int 0, .int 1]]], .str "a = 0/1", .tup [.tup [.str "a", .tup [.int 0]]]]
def preN : List RF.S := [(.asg (.nm 1) (.tup [(.tup [(.cst (.str "a")), (.tup [(.cst (.str "b")), (.cst (.str "c"))])]), (.tup [(.cst (.str "b")), (.tup [(.cst (.int 0)), (.cst (.int 1))])]), (.tup [(.cst (.str "c")), (.tup [(.cst (.int 1)), (.cst (.int 1))])])])), (.asg (.tup [(.nm 2), (.nm 3)]) (.tup [(.tup [(.tup [(.cst (.int 1)), (.cst (.int 2))]), (.tup [(.cst (.int 0)), (.cst (.int 1))]), (.tup [(.cst (.int 1)), (.cst (.int 1))])]), (.tup [(.tup [(.tup [(.cst (.int 1)), (.cst (.int 1))]), (.tup [(.cst (.int 0)), (.cst (.int 1))]), (.tup [(.cst (.int 1)), (.cst (.int 1))])]), (.tup [(.tup [(.cst (.int 1)), (.cst (.int 2))]), (.tup [(.cst (.int 0)), (.cst (.int 1))]), (.tup [(.cst (.int 1)), (.cst (.int 1))])])])])), (.asg (.nm 4) (.lst [(.var 2), (.var 3), (.cut (.var 3) none (some (.cst (.int 1)))), (.tup []), (.cst .non), (.tup [(.tup [(.cst (.int 0)), (.cst (.int 1))])]), (.tup [(.tup [(.cst (.int 1)), (.cst (.int 1))])]), (.tup [(.tup [(.cst (.int 0)), (.cst (.int 1))]), (.tup [(.cst (.int 0)), (.cst (.int 1))])]), (.tup [(.tup [(.cst (.int 1)), (.cst (.int 2))])])]))]
def bodyN : List RF.S := [(.asg (.nm 9) (.call 2199 [(.var 0), (.var 1)])), (.iff (.cmp .eq (.call 2085 [(.var 0), (.cst (.int 2))]) (.cst (.int 0))) [(.par [11, 12] [(.call 2091 [(.var 0), (.lst [(.cst (.str "needs")), (.cst (.str "above")), (.cst (.str "below"))])]), (.call 2091 [(.var 0), (.lst [(.tup [(.cst (.int 0)), (.cst (.int 1))]), (.tup [(.neg (.cst (.int 1))), (.cst (.int 1))]), (.tup [(.cst (.int 2)), (.cst (.int 1))])])])]), (.asg (.nm 9) (.tup [(.var 11), (.call 2200 [(.var 0)]), (.cst (.str "a")), (.var 12)]))] []), (.asg (.nm 10) (.bin .add (.comp (.call 104 [(.var 9), (.var 14)]) (.nm 14) .seq [(.var 4)] [] [14]) (.lst [(.callK 104 [] [(.var 2), (.var 9)] [1, 0])]))), (.iff (.cmp .ne (.bi .repr [(.var 10)]) (.bi .repr [(.bin .mul (.lst [(.cst (.bl false))]) (.cst (.int 10)))])) [(.ret (some (.cst (.bl false))))] [])]
def restN : List RF.S := [(.asg (.nm 7) (.bi .tuple [(.comp (.call 2093 [(.var 13), (.bin .add (.var 6) (.cst (.int 1)))]) (.nm 13) .range1 [(.bin .add (.var 6) (.cst (.int 2)))] [] [13])])), (.asg (.nm 8) (.lst [(.tup [(.tup [(.cst (.str "needs")), (.var 1), (.cst (.str "a")), (.tup [(.cst (.int 1)), (.cst (.int 2))])]), (.var 2)]), (.tup [(.tup [(.cst (.str "above")), (.var 1), (.cst (.str "a")), (.tup [(.neg (.cst (.int 1))), (.cst (.int 2))])]), (.var 2)])])), (.asg (.nm 8) (.bin .add (.var 8) (.lst [(.tup [(.tup [(.cst (.str "below")), (.var 1), (.cst (.str "a")), (.tup [(.cst (.int 3)), (.cst (.int 1))])]), (.var 2)])]))), (.asg (.nm 8) (.bin .add (.var 8) (.lst [(.tup [(.tup [(.cst (.str "within")), (.var 1), (.cst (.str "a")), (.cst (.int 1)), (.tup [(.cst (.int 1)), (.cst (.int 2))])]), (.var 3)])]))), (.asg (.nm 8) (.bin .add (.var 8) (.lst [(.tup [(.tup [(.cst (.str "safe")), (.var 1), (.cst (.str "a")), (.tup [(.cst (.int 3)), (.cst (.int 4))]), (.tup [(.cst (.int 1)), (.cst (.int 2))]), (.cst (.str "b"))]), (.var 2)])]))), (.asg (.nm 8) (.bin .add (.var 8) (.lst [(.tup [(.tup [(.cst (.str "within")), (.var 1), (.cst (.str "a")), (.cst (.int 60)), (.tup [(.cst (.int 1)), (.cst (.int 2))])]), (.bin .add (.cut (.var 3) none (some (.cst (.int 1)))) (.bin .mul (.cut (.var 3) (some (.cst (.int 1))) none) (.cst (.int 60))))])]))), (.asg (.nm 8) (.bin .add (.var 8) (.lst [(.tup [(.tup [(.cst (.str "needs")), (.call 2201 [(.var 6)]), (.cst (.str "b")), (.call 2093 [(.cst (.int 1)), (.bin .add (.var 6) (.cst (.int 1)))])]), (.var 7)])]))), (.asg (.nm 8) (.bin .add (.var 8) (.lst [(.tup [(.tup [(.cst (.str "needs")), (.tup [(.tup [(.cst (.str "q")), (.tup [(.cst (.int 1)), (.cst (.int 2))])])]), (.cst (.str "q")), (.tup [(.cst (.int 1)), (.cst (.int 2))])]), (.tup [(.tup [(.cst (.int 1)), (.cst (.int 2))])])])]))), (.ret (some (.cmp .eq (.bi .repr [(.comp (.call 104 [(.var 15), (.var 14)]) (.tup [(.nm 15), (.nm 14)]) .seq [(.var 8)] [] [15, 14])]) (.bi .repr [(.bin .mul (.lst [(.cst (.bl true))]) (.cst (.int 8)))]))))]
def AnyOk (f : List D → M D) : Prop := ∀ (S : Sto) (n : Nat) (l : List D), UrnAt S n → l ≠ [] → l.length < 1073741824 → ∃ v ∈ l, ∃ S', Moves n S S' ∧ f [.obj n, .lst l] S = .ok v S'
def DrawsOf (l : List D) (f : Nat → M D) : Prop := ∀ (S : Sto) (n : Nat), UrnAt S n → ∃ v ∈ l, ∃ S', Moves n S S' ∧ f n S = .ok v S'
section
variable {Φ : Fns} {S S1 S2 : Sto} {δ : En}
theorem any_ok (hD : DipOk (Φ.fn 2085)) : AnyOk (h_law_any Φ) := by
  intro S n l hS h0 hl
  obtain ⟨d, S1, hd, m1, e1⟩ := hD S n l.length hS (by
    have := List.length_pos_iff.mpr h0
    omega) hl
  refine ⟨l[d], List.getElem_mem hd, S1, m1, ?_⟩
  have e2 : ixF (.lst l) (.int d) S1 = .ok l[d] S1 := ixF_of (by
    show atI l (d : Int) = _
    have := atI_map id l d (x := l[d]) (by simp [hd])
    simpa using this)
  unfold h_law_any q_law_any
  simp [runB_run, e1, e2]
theorem denSs_app (N : Nat) : ∀ (a b : List RF.S) (δ : En) (S : Sto), denSs Φ N (a ++ b) δ S = (denSs Φ N a δ S).nxt (denSs Φ N b)
  | [], b, δ, S => by rw [List.nil_append, ss_nil, nxt_nx]
  | s :: a, b, δ, S => by
    rw [List.cons_append, ss_cons, ss_cons]
    cases h : denS Φ N s δ S with
    | ok fl S1 =>
      cases fl with
      | nx δ1 => rw [nxt_nx, nxt_nx, denSs_app]
      | bk δ1 => rw [nxt_bk, nxt_bk, nxt_bk]
      | rt v => rw [nxt_rt, nxt_rt, nxt_rt]
    | exc e S1 => rfl
    | no => rfl
theorem none2_ok (hA : AnyOk (Φ.fn 2091)) : DrawsOf LNONE (fun n => h_law_none2 Φ [.obj n, F3]) := by
  intro S n hS
  obtain ⟨v, hv, S1, m1, e1⟩ := hA S n LNONE hS (List.cons_ne_nil _ _) (by decide +kernel)
  refine ⟨v, hv, S1, m1, ?_⟩
  have s1 : denSs Φ fuel [(.asg (.nm 2) (.lst [(.tup [(.cst (.str "needs")), (.var 1), (.cst (.str "a"))]), (.tup [(.cst (.str "needs")), (.var 1), (.cst (.str "a")), (.tup [(.cst (.int 1)), (.cst (.int 2))]), (.cst (.int 0))]), (.lst [(.cst (.str "needs")), (.var 1), (.cst (.str "a")), (.tup [(.cst (.int 1)), (.cst (.int 2))])])])), (.asg (.nm 2) (.bin .add (.var 2) (.lst [(.tup [(.cst (.str "need")), (.var 1), (.cst (.str "a")), (.tup [(.cst (.int 1)), (.cst (.int 2))])])]))), (.asg (.nm 2) (.bin .add (.var 2) (.lst [(.tup [(.cst (.str "needs")), (.var 1), (.cst (.str "z")), (.tup [(.cst (.int 1)), (.cst (.int 2))])]), (.tup [(.cst (.str "needs")), (.var 1), (.cst .non), (.tup [(.cst (.int 1)), (.cst (.int 2))])]), (.tup [(.cst (.str "needs")), (.var 1), (.cst (.str "a")), (.tup [(.cst (.int 2)), (.cst (.int 4))])])]))), (.asg (.nm 2) (.bin .add (.var 2) (.lst [(.tup [(.cst (.str "needs")), (.var 1), (.cst (.str "a")), (.cst (.int 1))])]))), (.asg (.nm 2) (.bin .add (.var 2) (.lst [(.tup [(.cst (.str "above")), (.var 1), (.cst (.str "a")), (.tup [(.cst (.int 1)), (.cst (.int 0))])]), (.tup [(.cst (.str "below")), (.var 1), (.cst (.str "a")), (.lst [(.cst (.int 2)), (.cst (.int 3))])])]))), (.asg (.nm 2) (.bin .add (.var 2) (.lst [(.tup [(.cst (.str "above")), (.var 1), (.tup [(.cst (.str "a"))]), (.tup [(.cst (.int 0)), (.cst (.int 1))])]), (.tup [(.cst (.str "needs")), (.cst (.str "a")), (.var 1), (.tup [(.cst (.int 1)), (.cst (.int 2))])])]))), (.asg (.nm 2) (.bin .add (.var 2) (.lst [(.tup [(.cst (.str "within")), (.var 1), (.cst (.str "a")), (.cst (.int 1))]), (.tup [(.cst (.str "within")), (.var 1), (.cst (.str "a")), (.neg (.cst (.int 1))), (.tup [(.cst (.int 1)), (.cst (.int 1))])])]))), (.asg (.nm 2) (.bin .add (.var 2) (.lst [(.tup [(.cst (.str "within")), (.var 1), (.cst (.str "a")), (.cst (.int 61)), (.tup [(.cst (.int 1)), (.cst (.int 2))])]), (.tup [(.cst (.str "within")), (.var 1), (.cst (.str "a")), (.cst (.bl true)), (.tup [(.cst (.int 1)), (.cst (.int 2))])])]))), (.asg (.nm 2) (.bin .add (.var 2) (.lst [(.tup [(.cst (.str "within")), (.var 1), (.cst (.str "a")), (.cst (.int 0)), (.cst (.int 1))]), (.tup [(.cst (.str "within")), (.var 1), (.cst (.str "a")), (.cst (.str "0")), (.tup [(.cst (.int 1)), (.cst (.int 1))])])]))), (.asg (.nm 2) (.bin .add (.var 2) (.lst [(.tup [(.cst (.str "within")), (.var 1), (.cst (.str "a")), (.tup [(.cst (.int 1)), (.cst (.int 1))]), (.cst (.int 0))]), (.tup [(.cst (.str "Needs")), (.var 1), (.cst (.str "a")), (.tup [(.cst (.int 1)), (.cst (.int 2))])])]))), (.asg (.nm 2) (.bin .add (.var 2) (.lst [(.tup [(.cst (.str "safe")), (.var 1), (.cst (.str "a")), (.tup [(.cst (.int 3)), (.cst (.int 4))]), (.tup [(.cst (.int 1)), (.cst (.int 2))])]), (.tup [(.cst (.str "safe")), (.var 1), (.cst (.str "a")), (.tup [(.cst (.int 3)), (.cst (.int 2))]), (.tup [(.cst (.int 1)), (.cst (.int 2))]), (.cst (.str "b"))])]))), (.asg (.nm 2) (.bin .add (.var 2) (.lst [(.tup [(.cst (.str "safe")), (.var 1), (.cst (.str "a")), (.tup [(.cst (.int 3)), (.cst (.int 4))]), (.tup [(.neg (.cst (.int 1))), (.cst (.int 2))]), (.cst (.str "b"))])]))), (.asg (.nm 2) (.bin .add (.var 2) (.lst [(.tup [(.cst (.str "safe")), (.var 1), (.cst (.str "a")), (.tup [(.cst (.int 3)), (.cst (.int 4))]), (.tup [(.cst (.int 1)), (.cst (.int 2))]), (.cst (.str "z"))]), (.tup [(.cst (.str "safe")), (.var 1), (.cst (.str "a")), (.tup [(.cst (.int 3)), (.cst (.int 4))]), (.tup [(.cst (.int 1)), (.cst (.int 2))]), (.cst .non)])]))), (.asg (.nm 2) (.bin .add (.var 2) (.lst [(.tup [(.cst (.str "safe")), (.var 1), (.cst (.str "a")), (.cst (.int 1)), (.tup [(.cst (.int 1)), (.cst (.int 2))]), (.cst (.str "b"))])]))), (.asg (.nm 2) (.bin .add (.var 2) (.lst [(.cst .non), (.cst (.int 5)), (.cst (.str "needs")), (.tup []), (.lst []), .dnew, (.tup [(.tup [(.cst (.str "needs"))]), (.var 1), (.cst (.str "a")), (.tup [(.cst (.int 1)), (.cst (.int 2))])]), (.tup [(.cst (.str "needs"))]), (.var 1), (.cst (.bl true))]))), (.asg (.nm 2) (.bin .add (.var 2) (.lst [(.tup [(.cst (.str "")), (.var 1), (.cst (.str "a")), (.tup [(.cst (.int 1)), (.cst (.int 2))])])])))] [some (.obj n), some F3, none] S = .ok (.nx [some (.obj n), some F3, some (.lst (LNONE.take 37))]) S := by kernel_rfl
  have e0 : q_law_none2 = [(.asg (.nm 2) (.lst [(.tup [(.cst (.str "needs")), (.var 1), (.cst (.str "a"))]), (.tup [(.cst (.str "needs")), (.var 1), (.cst (.str "a")), (.tup [(.cst (.int 1)), (.cst (.int 2))]), (.cst (.int 0))]), (.lst [(.cst (.str "needs")), (.var 1), (.cst (.str "a")), (.tup [(.cst (.int 1)), (.cst (.int 2))])])])), (.asg (.nm 2) (.bin .add (.var 2) (.lst [(.tup [(.cst (.str "need")), (.var 1), (.cst (.str "a")), (.tup [(.cst (.int 1)), (.cst (.int 2))])])]))), (.asg (.nm 2) (.bin .add (.var 2) (.lst [(.tup [(.cst (.str "needs")), (.var 1), (.cst (.str "z")), (.tup [(.cst (.int 1)), (.cst (.int 2))])]), (.tup [(.cst (.str "needs")), (.var 1), (.cst .non), (.tup [(.cst (.int 1)), (.cst (.int 2))])]), (.tup [(.cst (.str "needs")), (.var 1), (.cst (.str "a")), (.tup [(.cst (.int 2)), (.cst (.int 4))])])]))), (.asg (.nm 2) (.bin .add (.var 2) (.lst [(.tup [(.cst (.str "needs")), (.var 1), (.cst (.str "a")), (.cst (.int 1))])]))), (.asg (.nm 2) (.bin .add (.var 2) (.lst [(.tup [(.cst (.str "above")), (.var 1), (.cst (.str "a")), (.tup [(.cst (.int 1)), (.cst (.int 0))])]), (.tup [(.cst (.str "below")), (.var 1), (.cst (.str "a")), (.lst [(.cst (.int 2)), (.cst (.int 3))])])]))), (.asg (.nm 2) (.bin .add (.var 2) (.lst [(.tup [(.cst (.str "above")), (.var 1), (.tup [(.cst (.str "a"))]), (.tup [(.cst (.int 0)), (.cst (.int 1))])]), (.tup [(.cst (.str "needs")), (.cst (.str "a")), (.var 1), (.tup [(.cst (.int 1)), (.cst (.int 2))])])]))), (.asg (.nm 2) (.bin .add (.var 2) (.lst [(.tup [(.cst (.str "within")), (.var 1), (.cst (.str "a")), (.cst (.int 1))]), (.tup [(.cst (.str "within")), (.var 1), (.cst (.str "a")), (.neg (.cst (.int 1))), (.tup [(.cst (.int 1)), (.cst (.int 1))])])]))), (.asg (.nm 2) (.bin .add (.var 2) (.lst [(.tup [(.cst (.str "within")), (.var 1), (.cst (.str "a")), (.cst (.int 61)), (.tup [(.cst (.int 1)), (.cst (.int 2))])]), (.tup [(.cst (.str "within")), (.var 1), (.cst (.str "a")), (.cst (.bl true)), (.tup [(.cst (.int 1)), (.cst (.int 2))])])]))), (.asg (.nm 2) (.bin .add (.var 2) (.lst [(.tup [(.cst (.str "within")), (.var 1), (.cst (.str "a")), (.cst (.int 0)), (.cst (.int 1))]), (.tup [(.cst (.str "within")), (.var 1), (.cst (.str "a")), (.cst (.str "0")), (.tup [(.cst (.int 1)), (.cst (.int 1))])])]))), (.asg (.nm 2) (.bin .add (.var 2) (.lst [(.tup [(.cst (.str "within")), (.var 1), (.cst (.str "a")), (.tup [(.cst (.int 1)), (.cst (.int 1))]), (.cst (.int 0))]), (.tup [(.cst (.str "Needs")), (.var 1), (.cst (.str "a")), (.tup [(.cst (.int 1)), (.cst (.int 2))])])]))), (.asg (.nm 2) (.bin .add (.var 2) (.lst [(.tup [(.cst (.str "safe")), (.var 1), (.cst (.str "a")), (.tup [(.cst (.int 3)), (.cst (.int 4))]), (.tup [(.cst (.int 1)), (.cst (.int 2))])]), (.tup [(.cst (.str "safe")), (.var 1), (.cst (.str "a")), (.tup [(.cst (.int 3)), (.cst (.int 2))]), (.tup [(.cst (.int 1)), (.cst (.int 2))]), (.cst (.str "b"))])]))), (.asg (.nm 2) (.bin .add (.var 2) (.lst [(.tup [(.cst (.str "safe")), (.var 1), (.cst (.str "a")), (.tup [(.cst (.int 3)), (.cst (.int 4))]), (.tup [(.neg (.cst (.int 1))), (.cst (.int 2))]), (.cst (.str "b"))])]))), (.asg (.nm 2) (.bin .add (.var 2) (.lst [(.tup [(.cst (.str "safe")), (.var 1), (.cst (.str "a")), (.tup [(.cst (.int 3)), (.cst (.int 4))]), (.tup [(.cst (.int 1)), (.cst (.int 2))]), (.cst (.str "z"))]), (.tup [(.cst (.str "safe")), (.var 1), (.cst (.str "a")), (.tup [(.cst (.int 3)), (.cst (.int 4))]), (.tup [(.cst (.int 1)), (.cst (.int 2))]), (.cst .non)])]))), (.asg (.nm 2) (.bin .add (.var 2) (.lst [(.tup [(.cst (.str "safe")), (.var 1), (.cst (.str "a")), (.cst (.int 1)), (.tup [(.cst (.int 1)), (.cst (.int 2))]), (.cst (.str "b"))])]))), (.asg (.nm 2) (.bin .add (.var 2) (.lst [(.cst .non), (.cst (.int 5)), (.cst (.str "needs")), (.tup []), (.lst []), .dnew, (.tup [(.tup [(.cst (.str "needs"))]), (.var 1), (.cst (.str "a")), (.tup [(.cst (.int 1)), (.cst (.int 2))])]), (.tup [(.cst (.str "needs"))]), (.var 1), (.cst (.bl true))]))), (.asg (.nm 2) (.bin .add (.var 2) (.lst [(.tup [(.cst (.str "")), (.var 1), (.cst (.str "a")), (.tup [(.cst (.int 1)), (.cst (.int 2))])])])))] ++ [(.ret (some (.call 2091 [(.var 0), (.var 2)])))] := rfl
  have s2 : denXs Φ [(.var 0), (.var 2)] [some (.obj n), some F3, some (.lst (LNONE.take 37))] S = .ok [.obj n, .lst LNONE] S := by kernel_rfl
  show h_law_none2 Φ [.obj n, F3] S = .ok v S1
  unfold h_law_none2
  rw [e0, runB_run]
  show (denSs Φ fuel (_ ++ _) [some (.obj n), some F3, none] S).ret = _
  rw [denSs_app, s1, nxt_nx, ss_cons, s_ret, r_call, s2, go_ok, e1]
  rfl
theorem bad_rows_ok (hA : AnyOk (Φ.fn 2091)) : DrawsOf LROWS (fun n => h_law_bad_rows Φ [.obj n]) := by
  intro S n hS
  obtain ⟨v, hv, S1, m1, e1⟩ := hA S n LROWS hS (List.cons_ne_nil _ _) (by decide +kernel)
  refine ⟨v, hv, S1, m1, ?_⟩
  have s1 : denSs Φ fuel [(.asg (.nm 1) (.lst [(.tup []), (.cst .non), (.lst [(.tup [(.cst (.str "a")), (.tup [(.cst (.int 0)), (.cst (.int 1))])])]), (.tup [(.tup [(.cst (.str "a")), (.tup [(.cst (.int 0)), (.cst (.int 1))])]), (.tup [(.cst (.str "a")), (.tup [(.cst (.int 1)), (.cst (.int 1))])])])])), (.asg (.nm 1) (.bin .add (.var 1) (.lst [(.tup [(.tup [(.cst (.str "b")), (.tup [(.cst (.int 0)), (.cst (.int 1))])]), (.tup [(.cst (.str "a")), (.tup [(.cst (.int 0)), (.cst (.int 1))])])])]))), (.asg (.nm 1) (.bin .add (.var 1) (.lst [(.tup [(.tup [(.cst (.str "a")), (.tup [(.cst (.str "b"))])]), (.tup [(.cst (.str "b")), (.tup [(.cst (.str "a"))])])]), (.tup [(.tup [(.cst (.str "a")), (.tup [(.cst (.str "c"))])]), (.tup [(.cst (.str "b")), (.tup [(.cst (.int 0)), (.cst (.int 1))])])]), (.tup [(.tup [(.cst (.str "a")), (.tup [(.cst (.int 2)), (.cst (.int 4))])])])]))), (.asg (.nm 1) (.bin .add (.var 1) (.lst [(.tup [(.tup [(.cst (.str "a")), (.tup [(.cst (.int 3)), (.cst (.int 2))])])])]))), (.asg (.nm 1) (.bin .add (.var 1) (.lst [(.tup [(.tup [(.cst (.str "a")), (.tup [(.cst (.int 1)), (.bin .add (.bin .pow (.cst (.int 10)) (.cst (.int 12))) (.cst (.int 1)))])])]), (.tup [(.tup [(.cst (.str "a")), (.tup [])])]), (.tup [(.tup [(.cst (.str "a")), (.lst [(.cst (.str "b"))])]), (.tup [(.cst (.str "b")), (.tup [(.cst (.int 0)), (.cst (.int 1))])])])]))), (.asg (.nm 1) (.bin .add (.var 1) (.lst [(.tup [(.tup [(.cst (.str "A")), (.tup [(.cst (.int 0)), (.cst (.int 1))])])])]))), (.asg (.nm 1) (.bin .add (.var 1) (.lst [(.tup [(.tup [(.cst (.str "a")), (.tup [(.cst (.str "b")), (.cst (.str "b"))])]), (.tup [(.cst (.str "b")), (.tup [(.cst (.int 0)), (.cst (.int 1))])])]), (.tup [(.tup [(.cst (.str "a")), (.tup [(.cst (.int 0)), (.cst (.int 1))]), (.cst (.int 0))])]), (.tup [(.lst [(.cst (.str "a")), (.tup [(.cst (.int 0)), (.cst (.int 1))])])])]))), (.asg (.nm 1) (.bin .add (.var 1) (.lst [(.tup [(.tup [(.cst (.str "ab")), (.tup [(.cst (.int 0)), (.cst (.int 1))])])])]))), (.asg (.nm 1) (.bin .add (.var 1) (.lst [(.tup [(.tup [(.cst (.str "a")), (.tup [(.cst (.str "c")), (.cst (.str "b"))])]), (.tup [(.cst (.str "b")), (.tup [(.cst (.int 0)), (.cst (.int 1))])]), (.tup [(.cst (.str "c")), (.tup [(.cst (.int 1)), (.cst (.int 1))])])]), (.tup [(.tup [(.cst (.str "a")), (.tup [(.cst (.bl true)), (.cst (.int 1))])])])]))), (.asg (.nm 1) (.bin .add (.var 1) (.lst [(.tup [(.tup [(.cst (.str "a")), (.cst (.str "b"))]), (.tup [(.cst (.str "b")), (.tup [(.cst (.int 0)), (.cst (.int 1))])])])])))] [some (.obj n), none, none] S = .ok (.nx [some (.obj n), some (.lst (LROWS.take 20)), none]) S := by kernel_rfl
  have e0 : q_law_bad_rows = [(.asg (.nm 1) (.lst [(.tup []), (.cst .non), (.lst [(.tup [(.cst (.str "a")), (.tup [(.cst (.int 0)), (.cst (.int 1))])])]), (.tup [(.tup [(.cst (.str "a")), (.tup [(.cst (.int 0)), (.cst (.int 1))])]), (.tup [(.cst (.str "a")), (.tup [(.cst (.int 1)), (.cst (.int 1))])])])])), (.asg (.nm 1) (.bin .add (.var 1) (.lst [(.tup [(.tup [(.cst (.str "b")), (.tup [(.cst (.int 0)), (.cst (.int 1))])]), (.tup [(.cst (.str "a")), (.tup [(.cst (.int 0)), (.cst (.int 1))])])])]))), (.asg (.nm 1) (.bin .add (.var 1) (.lst [(.tup [(.tup [(.cst (.str "a")), (.tup [(.cst (.str "b"))])]), (.tup [(.cst (.str "b")), (.tup [(.cst (.str "a"))])])]), (.tup [(.tup [(.cst (.str "a")), (.tup [(.cst (.str "c"))])]), (.tup [(.cst (.str "b")), (.tup [(.cst (.int 0)), (.cst (.int 1))])])]), (.tup [(.tup [(.cst (.str "a")), (.tup [(.cst (.int 2)), (.cst (.int 4))])])])]))), (.asg (.nm 1) (.bin .add (.var 1) (.lst [(.tup [(.tup [(.cst (.str "a")), (.tup [(.cst (.int 3)), (.cst (.int 2))])])])]))), (.asg (.nm 1) (.bin .add (.var 1) (.lst [(.tup [(.tup [(.cst (.str "a")), (.tup [(.cst (.int 1)), (.bin .add (.bin .pow (.cst (.int 10)) (.cst (.int 12))) (.cst (.int 1)))])])]), (.tup [(.tup [(.cst (.str "a")), (.tup [])])]), (.tup [(.tup [(.cst (.str "a")), (.lst [(.cst (.str "b"))])]), (.tup [(.cst (.str "b")), (.tup [(.cst (.int 0)), (.cst (.int 1))])])])]))), (.asg (.nm 1) (.bin .add (.var 1) (.lst [(.tup [(.tup [(.cst (.str "A")), (.tup [(.cst (.int 0)), (.cst (.int 1))])])])]))), (.asg (.nm 1) (.bin .add (.var 1) (.lst [(.tup [(.tup [(.cst (.str "a")), (.tup [(.cst (.str "b")), (.cst (.str "b"))])]), (.tup [(.cst (.str "b")), (.tup [(.cst (.int 0)), (.cst (.int 1))])])]), (.tup [(.tup [(.cst (.str "a")), (.tup [(.cst (.int 0)), (.cst (.int 1))]), (.cst (.int 0))])]), (.tup [(.lst [(.cst (.str "a")), (.tup [(.cst (.int 0)), (.cst (.int 1))])])])]))), (.asg (.nm 1) (.bin .add (.var 1) (.lst [(.tup [(.tup [(.cst (.str "ab")), (.tup [(.cst (.int 0)), (.cst (.int 1))])])])]))), (.asg (.nm 1) (.bin .add (.var 1) (.lst [(.tup [(.tup [(.cst (.str "a")), (.tup [(.cst (.str "c")), (.cst (.str "b"))])]), (.tup [(.cst (.str "b")), (.tup [(.cst (.int 0)), (.cst (.int 1))])]), (.tup [(.cst (.str "c")), (.tup [(.cst (.int 1)), (.cst (.int 1))])])]), (.tup [(.tup [(.cst (.str "a")), (.tup [(.cst (.bl true)), (.cst (.int 1))])])])]))), (.asg (.nm 1) (.bin .add (.var 1) (.lst [(.tup [(.tup [(.cst (.str "a")), (.cst (.str "b"))]), (.tup [(.cst (.str "b")), (.tup [(.cst (.int 0)), (.cst (.int 1))])])])])))] ++ [(.ret (some (.call 2091 [(.var 0), (.bin .add (.var 1) (.lst [(.bi .tuple [(.comp (.tup [(.var 2), (.tup [(.cst (.int 0)), (.cst (.int 1))])]) (.nm 2) .seq [(.cst (.str "abcdefghijk"))] [] [2])]), (.cst (.str "a = 0/1")), (.tup [(.tup [(.cst (.str "a")), (.tup [(.cst (.int 0))])])])]))])))] := rfl
  have s2 : denXs Φ [(.var 0), (.bin .add (.var 1) (.lst [(.bi .tuple [(.comp (.tup [(.var 2), (.tup [(.cst (.int 0)), (.cst (.int 1))])]) (.nm 2) .seq [(.cst (.str "abcdefghijk"))] [] [2])]), (.cst (.str "a = 0/1")), (.tup [(.tup [(.cst (.str "a")), (.tup [(.cst (.int 0))])])])]))] [some (.obj n), some (.lst (LROWS.take 20)), none] S = .ok [.obj n, .lst LROWS] S := by kernel_rfl
  show h_law_bad_rows Φ [.obj n] S = .ok v S1
  unfold h_law_bad_rows
  rw [e0, runB_run]
  show (denSs Φ fuel (_ ++ _) [some (.obj n), none, none] S).ret = _
  rw [denSs_app, s1, nxt_nx, ss_cons, s_ret, r_call, s2, go_ok, e1]
  rfl
theorem acc_none {v p : D} (h : Φ.fn 99 [v] S = .ok (.bl false) S) : g_accepts Φ [v, p] S = .ok (.bl false) S := by
  unfold g_accepts p_accepts
  simp [runB_run, h]
def WORDS3 : List D := [.str "needs", .str "above", .str "below"]
def NUMS3 : List D := [.tup [.int 0, .int 1], .tup [.int (-1), .int 1], .tup [.int 2, .int 1]]
theorem claim_none {w : D} {R x y : D} (hT : Φ.tb 2 = LENS) (hw : w ∈ WORDS3) (h : Φ.fn 24 [R] S = .ok (.bl false) S) : g_is_claim Φ [.tup [w, R, x, y]] S = .ok (.bl false) S := by
  have i2 : ∀ w : Str, isD Φ.nc S .str (.str w) = some true := fun _ => rfl
  have i3 : ∀ l : List D, isD Φ.nc S .tuple (.tup l) = some true := fun _ => rfl
  have g1 : ∃ z : Str, w = .str z ∧ inGF LENS true (.str z) S = .ok (.bl false) S ∧ ixGF LENS (.str z) S = .ok (.int 4) S := by
    have : w = .str "needs" ∨ w = .str "above" ∨ w = .str "below" := by simpa [WORDS3] using hw
    rcases this with e | e | e <;> subst e
    · exact ⟨_, rfl, rfl, rfl⟩
    · exact ⟨_, rfl, rfl, rfl⟩
    · exact ⟨_, rfl, rfl, rfl⟩
  obtain ⟨z, rfl, g1, g2⟩ := g1
  unfold g_is_claim p_is_claim
  simp [runB_run, i2, i3, hT, g1, g2, h]
/-- values that are no claims -/
def IsBad (v : D) : Prop := v ∈ LNONE ∨ ∃ w ∈ WORDS3, ∃ R ∈ LROWS, ∃ q ∈ NUMS3, v = .tup [w, R, .str "a", q]
def BadOk (F : List D → M D) : Prop := ∀ (v p : D) (S : Sto), IsBad v → F [v, p] S = .ok (.bl false) S
def MOV3 : D := .tup [.tup [.tup [.int 1, .int 1], .tup [.int 0, .int 1], .tup [.int 1, .int 1]], OWN3]
def envN (m : Nat) (a b c d e f g h : Option D) : En := [some (.obj m), some F3, some OWN3, some MOV3, some (.lst SHEETS), a, none, none, none, b, c, d, e, f, g, h]
def FALSE10 : D := .lst [.bl false, .bl false, .bl false, .bl false, .bl false, .bl false, .bl false, .bl false, .bl false, .bl false]
theorem fin_none (hB : BadOk (Φ.fn 104)) {m : Nat} {v : D} (hv : IsBad v) (a c d e f g h : Option D) : denSs Φ fuel [(.asg (.nm 10) (.bin .add (.comp (.call 104 [(.var 9), (.var 14)]) (.nm 14) .seq [(.var 4)] [] [14]) (.lst [(.callK 104 [] [(.var 2), (.var 9)] [1, 0])]))), (.iff (.cmp .ne (.bi .repr [(.var 10)]) (.bi .repr [(.bin .mul (.lst [(.cst (.bl false))]) (.cst (.int 10)))])) [(.ret (some (.cst (.bl false))))] [])] (envN m a (some v) c d e f g h) S = .ok (.nx (envN m a (some v) (some FALSE10) d e f g h)) S := by
  have hc : ∀ p ∈ SHEETS, kF Φ (.nm 14) [] (.call 104 [(.var 9), (.var 14)]) [14] (envN m a (some v) c d e f g h) (id p) S = .ok (some (.bl false)) S := by
    intro p _
    have e1 := hB v p S hv
    simp [kF_run, wipe, envN, e1]
  have c1 := comp_map1 hc
  rw [List.map_id] at c1
  have i1 : itemsOf .seq [.lst SHEETS] = some SHEETS := rfl
  have l1 : SHEETS.length < line := by decide +kernel
  have x1 : denX Φ (.comp (.call 104 [(.var 9), (.var 14)]) (.nm 14) .seq [(.var 4)] [] [14]) (envN m a (some v) c d e f g h) S = .ok (.lst (SHEETS.map fun _ => .bl false)) S := by
    have y0 : denXs Φ [(.var 4)] (envN m a (some v) c d e f g h) S = .ok [.lst SHEETS] S := by simp [envN]
    rw [r_comp, y0, go_ok, i1, ofO_some, go_ok, c1, go_ok, if_pos l1]
  have e2 := hB v OWN3 S hv
  have x2 : denX Φ (.lst [(.callK 104 [] [(.var 2), (.var 9)] [1, 0])]) (envN m a (some v) c d e f g h) S = .ok (.lst [.bl false]) S := by
    have y1 : permD [1, 0] [OWN3, v] = [v, OWN3] := rfl
    simp [envN, y1, e2]
  have x3 : binD .add (.lst (SHEETS.map fun _ => .bl false)) (.lst [.bl false]) S = .ok FALSE10 S := by rfl
  have s1 : denS Φ fuel (.asg (.nm 10) (.bin .add (.comp (.call 104 [(.var 9), (.var 14)]) (.nm 14) .seq [(.var 4)] [] [14]) (.lst [(.callK 104 [] [(.var 2), (.var 9)] [1, 0])]))) (envN m a (some v) c d e f g h) S = .ok (.nx (envN m a (some v) (some FALSE10) d e f g h)) S := by
    rw [s_asg, r_bin, x1, go_ok, x2, go_ok, x3, go_ok]
    simp [envN]
  have sh : showOk (boolsD [false, false, false, false, false, false, false, false, false, false]) = true := by decide +kernel
  have rp : biD .repr [FALSE10] S = .ok (.str (D.text (boolsD [false, false, false, false, false, false, false, false, false, false]))) S := repr_bools sh
  have x4 : binD .mul (.lst [.bl false]) (.int 10) S = .ok FALSE10 S := by kernel_rfl
  have s2 : denS Φ fuel (.iff (.cmp .ne (.bi .repr [(.var 10)]) (.bi .repr [(.bin .mul (.lst [(.cst (.bl false))]) (.cst (.int 10)))])) [(.ret (some (.cst (.bl false))))] []) (envN m a (some v) (some FALSE10) d e f g h) S = .ok (.nx (envN m a (some v) (some FALSE10) d e f g h)) S := by
    simp [envN, rp, x4]
  rw [ss_cons, s1, nxt_nx, ss_cons, s2, nxt_nx]
  rfl
theorem turn_none (hD : DipOk (Φ.fn 2085)) (hA : AnyOk (Φ.fn 2091)) (hN : DrawsOf LNONE (fun n => Φ.fn 2199 [.obj n, F3])) (hR : DrawsOf LROWS (fun n => Φ.fn 2200 [.obj n])) (hB : BadOk (Φ.fn 104)) {m : Nat} (hS : UrnAt S m) (i : D) (a b c d e f g h : Option D) :
    ∃ b' c' d' e' S', Moves m S S' ∧ fF Φ fuel (.nm 5) bodyN i (envN m a b c d e f g h) S = .ok (.nx (envN m (some i) b' c' d' e' f g h)) S' := by
  obtain ⟨v, hv, S1, m1, e1⟩ := hN S m hS
  have e1 : Φ.fn 2199 [.obj m, F3] S = .ok v S1 := e1
  obtain ⟨t, S2, ht, m2, e2⟩ := hD S1 m 2 m1.1 (by decide) (by decide)
  have e2 : Φ.fn 2085 [.obj m, .int 2] S1 = .ok (.int t) S2 := e2
  have e0 : bodyN = [(.asg (.nm 9) (.call 2199 [(.var 0), (.var 1)])), (.iff (.cmp .eq (.call 2085 [(.var 0), (.cst (.int 2))]) (.cst (.int 0))) [(.par [11, 12] [(.call 2091 [(.var 0), (.lst [(.cst (.str "needs")), (.cst (.str "above")), (.cst (.str "below"))])]), (.call 2091 [(.var 0), (.lst [(.tup [(.cst (.int 0)), (.cst (.int 1))]), (.tup [(.neg (.cst (.int 1))), (.cst (.int 1))]), (.tup [(.cst (.int 2)), (.cst (.int 1))])])])]), (.asg (.nm 9) (.tup [(.var 11), (.call 2200 [(.var 0)]), (.cst (.str "a")), (.var 12)]))] [])] ++ [(.asg (.nm 10) (.bin .add (.comp (.call 104 [(.var 9), (.var 14)]) (.nm 14) .seq [(.var 4)] [] [14]) (.lst [(.callK 104 [] [(.var 2), (.var 9)] [1, 0])]))), (.iff (.cmp .ne (.bi .repr [(.var 10)]) (.bi .repr [(.bin .mul (.lst [(.cst (.bl false))]) (.cst (.int 10)))])) [(.ret (some (.cst (.bl false))))] [])] := rfl
  have f0 : fF Φ fuel (.nm 5) bodyN i (envN m a b c d e f g h) S = denSs Φ fuel bodyN (envN m (some i) b c d e f g h) S := by
    rw [fF_run]
    simp [envN]
  rw [f0, e0, denSs_app]
  have s1 : denS Φ fuel (.asg (.nm 9) (.call 2199 [(.var 0), (.var 1)])) (envN m (some i) b c d e f g h) S = .ok (.nx (envN m (some i) (some v) c d e f g h)) S1 := by simp [envN, e1]
  by_cases h0 : t = 0
  · obtain ⟨w, hw, S3, m3, e3⟩ := hA S2 m WORDS3 m2.1 (List.cons_ne_nil _ _) (by decide)
    obtain ⟨q, hq, S4, m4, e4⟩ := hA S3 m NUMS3 m3.1 (List.cons_ne_nil _ _) (by decide)
    obtain ⟨R, hR', S5, m5, e5⟩ := hR S4 m m4.1
    have e5 : Φ.fn 2200 [.obj m] S4 = .ok R S5 := e5
    have e3 : Φ.fn 2091 [.obj m, .lst [.str "needs", .str "above", .str "below"]] S2 = .ok w S3 := e3
    have e4 : Φ.fn 2091 [.obj m, .lst [.tup [.int 0, .int 1], .tup [.int (-1), .int 1], .tup [.int 2, .int 1]]] S3 = .ok q S4 := e4
    have s2 : denS Φ fuel (.iff (.cmp .eq (.call 2085 [(.var 0), (.cst (.int 2))]) (.cst (.int 0))) [(.par [11, 12] [(.call 2091 [(.var 0), (.lst [(.cst (.str "needs")), (.cst (.str "above")), (.cst (.str "below"))])]), (.call 2091 [(.var 0), (.lst [(.tup [(.cst (.int 0)), (.cst (.int 1))]), (.tup [(.neg (.cst (.int 1))), (.cst (.int 1))]), (.tup [(.cst (.int 2)), (.cst (.int 1))])])])]), (.asg (.nm 9) (.tup [(.var 11), (.call 2200 [(.var 0)]), (.cst (.str "a")), (.var 12)]))] []) (envN m (some i) (some v) c d e f g h) S1 = .ok (.nx (envN m (some i) (some (.tup [w, R, .str "a", q])) c (some w) (some q) f g h)) S5 := by
      subst h0
      simp [envN, e2, e3, e4, e5]
    refine ⟨some (.tup [w, R, .str "a", q]), some FALSE10, some w, some q, S5, (((m1.trans m2).trans m3).trans m4).trans m5, ?_⟩
    rw [ss_cons, s1, nxt_nx, ss_cons, s2, nxt_nx, ss_nil, nxt_nx]
    exact fin_none hB (.inr ⟨w, hw, R, hR', q, hq, rfl⟩) _ _ _ _ _ _ _
  · have h0' : ¬ (t : Int) = 0 := by omega
    have s2 : denS Φ fuel (.iff (.cmp .eq (.call 2085 [(.var 0), (.cst (.int 2))]) (.cst (.int 0))) [(.par [11, 12] [(.call 2091 [(.var 0), (.lst [(.cst (.str "needs")), (.cst (.str "above")), (.cst (.str "below"))])]), (.call 2091 [(.var 0), (.lst [(.tup [(.cst (.int 0)), (.cst (.int 1))]), (.tup [(.neg (.cst (.int 1))), (.cst (.int 1))]), (.tup [(.cst (.int 2)), (.cst (.int 1))])])])]), (.asg (.nm 9) (.tup [(.var 11), (.call 2200 [(.var 0)]), (.cst (.str "a")), (.var 12)]))] []) (envN m (some i) (some v) c d e f g h) S1 = .ok (.nx (envN m (some i) (some v) c d e f g h)) S2 := by
      simp [envN, e2, h0, h0']
    refine ⟨some v, some FALSE10, d, e, S2, m1.trans m2, ?_⟩
    rw [ss_cons, s1, nxt_nx, ss_cons, s2, nxt_nx, ss_nil, nxt_nx]
    exact fin_none hB (.inl hv) _ _ _ _ _ _ _
theorem turns_none (hD : DipOk (Φ.fn 2085)) (hA : AnyOk (Φ.fn 2091)) (hN : DrawsOf LNONE (fun n => Φ.fn 2199 [.obj n, F3])) (hR : DrawsOf LROWS (fun n => Φ.fn 2200 [.obj n])) (hB : BadOk (Φ.fn 104)) {m : Nat} : ∀ (l : List D) (S : Sto) (a b c d e f g h : Option D), UrnAt S m →
    ∃ a' b' c' d' e' S', Moves m S S' ∧ forL (fF Φ fuel (.nm 5) bodyN) l (envN m a b c d e f g h) S = .ok (.nx (envN m a' b' c' d' e' f g h)) S'
  | [], S, a, b, c, d, e, f, g, h, hS => ⟨a, b, c, d, e, S, Moves.refl hS, rfl⟩
  | i :: l, S, a, b, c, d, e, f, g, h, hS => by
    obtain ⟨b1, c1, d1, e1, S1, m1, h1⟩ := turn_none hD hA hN hR hB hS i a b c d e f g h
    obtain ⟨a2, b2, c2, d2, e2, S2, m2, h2⟩ := turns_none hD hA hN hR hB l S1 (some i) b1 c1 d1 e1 f g h m1.1
    refine ⟨a2, b2, c2, d2, e2, S2, m1.trans m2, ?_⟩
    rw [for_cons, h1, go_ok]
    exact h2
/-- what stands behind the turns, for each number -/
def RestOk (Φ : Fns) : Prop := ∀ n : Nat, 1 ≤ n → n ≤ 8 → ∀ (m : Nat) (S : Sto) (a b c d e : Option D), denSs Φ fuel restN ((envN m a b c d e none none none).set 6 (some (.int n))) S = .ok (.rt (.bl true)) S
theorem right56_ok (hD : DipOk (Φ.fn 2085)) (hA : AnyOk (Φ.fn 2091)) (hN : DrawsOf LNONE (fun n => Φ.fn 2199 [.obj n, F3])) (hR : DrawsOf LROWS (fun n => Φ.fn 2200 [.obj n])) (hB : BadOk (Φ.fn 104)) (hE : RestOk Φ) : RightOk (h_law_right56 Φ) := by
  intro S m hS
  obtain ⟨a, b, c, d, e, S1, m1, h1⟩ := turns_none hD hA hN hR hB (rangeL 24 0) S none none none none none none none none hS
  obtain ⟨t, S2, ht, m2, e2⟩ := hD S1 m 8 m1.1 (by decide) (by decide)
  have e2 : Φ.fn 2085 [.obj m, .int 8] S1 = .ok (.int t) S2 := e2
  have h3 := hE (1 + t) (by omega) (by omega) m S2 a b c d e
  rw [show ((1 + t : Nat) : Int) = (1 : Int) + t by omega] at h3
  refine ⟨S2, m1.trans m2, ?_⟩
  have e0 : q_law_right56 = preN ++ (.forr (.nm 5) .range1 [(.cst (.int 24))] bodyN :: (.asg (.nm 6) (.bin .add (.cst (.int 1)) (.call 2085 [(.var 0), (.cst (.int 8))]))) :: restN) := rfl
  have s0 : denSs Φ fuel preN [some (.obj m), none, none, none, none, none, none, none, none, none, none, none, none, none, none, none] S = .ok (.nx (envN m none none none none none none none none)) S := by kernel_rfl
  have i1 : itemsOf .range1 [.int 24] = some (rangeL 24 0) := by kernel_rfl
  have s1 : denS Φ fuel (.forr (.nm 5) .range1 [(.cst (.int 24))] bodyN) (envN m none none none none none none none none) S = .ok (.nx (envN m a b c d e none none none)) S1 := by
    rw [s_for]
    simp only [rs_cons, rs_nil, r_cst, go_ok, i1, ofO_some]
    exact h1
  have s2 : denS Φ fuel (.asg (.nm 6) (.bin .add (.cst (.int 1)) (.call 2085 [(.var 0), (.cst (.int 8))]))) (envN m a b c d e none none none) S1 = .ok (.nx ((envN m a b c d e none none none).set 6 (some (.int (1 + t))))) S2 := by
    simp [envN, e2]
  show h_law_right56 Φ [.obj m] S = .ok (.bl true) S2
  unfold h_law_right56
  rw [e0, runB_run]
  show (denSs Φ fuel (_ ++ _) [some (.obj m), none, none, none, none, none, none, none, none, none, none, none, none, none, none, none] S).ret = _
  rw [denSs_app, s0, nxt_nx, ss_cons, s1, nxt_nx, ss_cons, s2, nxt_nx, h3, ret_rt]
end
end RF
end
set_option linter.all false
set_option maxRecDepth 100000
set_option maxHeartbeats 0
namespace RF.K77
open PySem PySem.Spec PyProof.Rows L2 RF
def top (i : Nat) : Stmt := PySem.Challenge.pw_biddingmoves_k77_claims_that_are_none.main.body.getD i (.Pass ⟨0, 0, 0, 0⟩)
def f_law_dip : Fd := ⟨"_law_dip", defArgs (top 50), defBody (top 50), defScope (top 50), ["urn", "size", "digit"], 2, [], [], false, fuel, q_law_dip⟩
def f_law_any : Fd := ⟨"_law_any", defArgs (top 51), defBody (top 51), defScope (top 51), ["urn", "some"], 2, [], [], false, fuel, q_law_any⟩
def f_law_none : Fd := ⟨"_law_none", defArgs (top 55), defBody (top 55), defScope (top 55), ["urn", "f", "some"], 2, [], [], false, fuel, q_law_none2⟩
def f_law_shared : Fd := ⟨"_law_shared", defArgs (top 52), defBody (top 52), defScope (top 52), ["a", "b"], 2, [], [], false, fuel, q_law_shared⟩
def f_law_low : Fd := ⟨"_law_low", defArgs (top 53), defBody (top 53), defScope (top 53), ["top", "bottom", "own"], 2, [], [], false, fuel, q_law_low2⟩
def f_law_bad_rows : Fd := ⟨"_law_bad_rows", defArgs (top 54), defBody (top 54), defScope (top 54), ["urn", "some", "each"], 1, [], [], false, fuel, q_law_bad_rows⟩
def f_common : Fd := ⟨"common", defArgs (top 4), defBody (top 4), defScope (top 4), ["first", "last"], 2, [], [], false, fuel, p_common⟩
def f_is_between : Fd := ⟨"is_between", defArgs (top 3), defBody (top 3), defScope (top 3), ["value", "least", "most"], 3, [], [], false, fuel, p_is_between⟩
def f_is_fraction : Fd := ⟨"is_fraction", defArgs (top 6), defBody (top 6), defScope (top 6), ["value"], 1, [], [], false, fuel, p_is_fraction⟩
def f_table_in : Fd := ⟨"table_in", defArgs (top 43), defBody (top 43), defScope (top 43), ["rows", "value", "index", "place", "what", "number"], 2, [], [], false, fuel, p_table_in⟩
def f_is_below : Fd := ⟨"is_below", defArgs (top 9), defBody (top 9), defScope (top 9), ["one", "other"], 2, [], [], false, fuel, p_is_below⟩
def f_is_within : Fd := ⟨"is_within", defArgs (top 15), defBody (top 15), defScope (top 15), ["value", "low", "high"], 3, [], [], false, fuel, p_is_within⟩
def f_is_share : Fd := ⟨"is_share", defArgs (top 16), defBody (top 16), defScope (top 16), ["value"], 1, [], [], false, fuel, p_is_share⟩
def f_is_about : Fd := ⟨"is_about", defArgs (top 41), defBody (top 41), defScope (top 41), ["claim", "places", "place", "what"], 1, [], [], false, fuel, p_is_about⟩
def f_is_ascending : Fd := ⟨"is_ascending", defArgs (top 24), defBody (top 24), defScope (top 24), ["value", "place"], 1, [], [], false, fuel, p_is_ascending⟩
def f_is_end : Fd := ⟨"is_end", defArgs (top 26), defBody (top 26), defScope (top 26), ["what"], 1, [], [], false, fuel, p_is_end⟩
def f_lost_places : Fd := ⟨"lost_places", defArgs (top 28), defBody (top 28), defScope (top 28), ["rows", "home", "step", "place", "what", "to"], 1, [1], [1], false, fuel, p_lost_places⟩
def f_is_part : Fd := ⟨"is_part", defArgs (top 23), defBody (top 23), defScope (top 23), ["value"], 1, [], [], false, fuel, p_is_part⟩
def f_is_letter : Fd := ⟨"is_letter", defArgs (top 22), defBody (top 22), defScope (top 22), ["value"], 1, [], [], false, fuel, p_is_letter⟩
def f_are_arrows : Fd := ⟨"are_arrows", defArgs (top 25), defBody (top 25), defScope (top 25), ["value", "part"], 1, [], [], false, fuel, p_are_arrows⟩
def f_is_pair : Fd := ⟨"is_pair", defArgs (top 27), defBody (top 27), defScope (top 27), ["value"], 1, [], [], false, fuel, p_is_pair⟩
def f_are_rows : Fd := ⟨"are_rows", defArgs (top 29), defBody (top 29), defScope (top 29), ["value", "places", "place", "what", "pair", "to"], 1, [], [], false, fuel, p_are_rows⟩
def f_is_claim : Fd := ⟨"is_claim", defArgs (top 42), defBody (top 42), defScope (top 42), ["claim", "place", "what"], 1, [], [], false, fuel, p_is_claim⟩
def f_ends_in : Fd := ⟨"ends_in", defArgs (top 31), defBody (top 31), defScope (top 31), ["rows", "place", "what"], 1, [], [], true, fuel, p_ends_in⟩
def f_begun : Fd := ⟨"begun", defArgs (top 37), defBody (top 37), defScope (top 37), ["rows", "number", "found", "place", "what"], 2, [2], [2], false, fuel, p_begun⟩
def f_lesser : Fd := ⟨"lesser", defArgs (top 10), defBody (top 10), defScope (top 10), ["one", "other"], 2, [], [], false, fuel, p_lesser⟩
def f_least : Fd := ⟨"least", defArgs (top 13), defBody (top 13), defScope (top 13), ["some", "found", "one"], 1, [], [], false, fuel, p_least⟩
def f_greater : Fd := ⟨"greater", defArgs (top 11), defBody (top 11), defScope (top 11), ["one", "other"], 2, [], [], false, fuel, p_greater⟩
def f_greatest : Fd := ⟨"greatest", defArgs (top 14), defBody (top 14), defScope (top 14), ["some", "found", "one"], 1, [], [], false, fuel, p_greatest⟩
def f_ends_of : Fd := ⟨"ends_of", defArgs (top 32), defBody (top 32), defScope (top 32), ["what", "numbers", "some", "to"], 2, [], [], false, fuel, p_ends_of⟩
def f_lowest : Fd := ⟨"lowest", defArgs (top 5), defBody (top 5), defScope (top 5), ["top", "bottom", "shared"], 2, [], [], false, fuel, p_lowest⟩
def f_half : Fd := ⟨"half", defArgs (top 12), defBody (top 12), defScope (top 12), ["one"], 1, [], [], false, fuel, p_half⟩
def f_add : Fd := ⟨"add", defArgs (top 7), defBody (top 7), defScope (top 7), ["one", "other"], 2, [], [], false, fuel, p_add⟩
def f_halved : Fd := ⟨"halved", defArgs (top 33), defBody (top 33), defScope (top 33), ["what", "numbers", "low", "high"], 2, [], [], false, fuel, p_halved⟩
def f_moved : Fd := ⟨"moved", defArgs (top 38), defBody (top 38), defScope (top 38), ["rows", "numbers", "place", "what"], 2, [], [], false, fuel, p_moved⟩
def f_shows_within : Fd := ⟨"shows_within", defArgs (top 45), defBody (top 45), defScope (top 45), ["claim", "paper", "rows", "numbers", "told", "last"], 2, [], [], false, fuel, p_shows_within⟩
def f_less : Fd := ⟨"less", defArgs (top 8), defBody (top 8), defScope (top 8), ["one", "other"], 2, [], [], false, fuel, p_less⟩
def f_stretch : Fd := ⟨"stretch", defArgs (top 35), defBody (top 35), defScope (top 35), ["what", "numbers", "share", "side", "to", "low", "high"], 5, [], [], false, fuel, p_stretch⟩
def f_shows_safe : Fd := ⟨"shows_safe", defArgs (top 46), defBody (top 46), defScope (top 46), ["claim", "numbers", "what", "low", "high"], 2, [], [], false, fuel, p_shows_safe⟩
def f_is_table : Fd := ⟨"is_table", defArgs (top 44), defBody (top 44), defScope (top 44), ["rows", "numbers", "place", "what"], 2, [], [], false, fuel, p_is_table⟩
def f_accepts : Fd := ⟨"accepts", defArgs (top 47), defBody (top 47), defScope (top 47), ["claim", "paper", "numbers", "number"], 2, [], [], false, fuel, p_accepts⟩
def f_law_path : Fd := ⟨"_law_path", defArgs (top 56), defBody (top 56), defScope (top 56), ["n", "signs", "found", "k"], 1, [2], [2], false, fuel, q_law_path2⟩
def f_law_right : Fd := ⟨"_law_right", defArgs (top 57), defBody (top 57), defScope (top 57), ["urn", "f", "own", "moves_own", "sheets", "turn", "n", "even", "good", "bad", "got", "word", "number", "k", "sheet", "said"], 1, [], [], false, fuel, q_law_right56⟩
def f_law_urn : Fd := ⟨"_law_urn", defArgs (top 49), defBody (top 49), defScope (top 49), ["script", "turn", "cell", "stirred", "each"], 2, [], [], true, fuel, q_law_urn⟩
def f_law_b : List S := [(.ret (some (.bi .all [(.comp (.call 2202 [(.mkx (.call 2108 [(.var 0), (.var 1)]))]) (.nm 1) .range1 [(.bi .max [(.cst (.int 2)), (.bi .min [(.bi .len [(.var 0)]), (.cst (.int 4))])])] [] [1])])))]
def f_law : Fd := ⟨"law", defArgs (top 58), defBody (top 58), defScope (top 58), ["script", "k"], 1, [], [], false, fuel, f_law_b⟩
def LL : List (Nat × Fd) := [(2108, f_law_urn), (2202, f_law_right), (2201, f_law_path), (104, f_accepts), (101, f_is_table), (103, f_shows_safe), (68, f_stretch), (6, f_less), (102, f_shows_within), (58, f_moved), (55, f_halved), (5, f_add), (12, f_half), (3, f_lowest), (48, f_ends_of), (14, f_greatest), (11, f_greater), (13, f_least), (10, f_lesser), (57, f_begun), (38, f_ends_in), (99, f_is_claim), (24, f_are_rows), (22, f_is_pair), (20, f_are_arrows), (17, f_is_letter), (18, f_is_part), (23, f_lost_places), (21, f_is_end), (19, f_is_ascending), (98, f_is_about), (16, f_is_share), (15, f_is_within), (9, f_is_below), (100, f_table_in), (4, f_is_fraction), (0, f_is_between), (2, f_common), (2200, f_law_bad_rows), (2093, f_law_low), (2092, f_law_shared), (2199, f_law_none), (2091, f_law_any), (2085, f_law_dip)]
def ld : LawD := ⟨(1000, f_law) :: LL, [(0, "ZERO", (.tup [(.int 0), (.int 1)])), (1, "ONE", (.tup [(.int 1), (.int 1)])), (2, "MOST_PLACES", (.int 10)), (3, "MOST_MOVES", (.int 60)), (4, "MOST_BOTTOM", (.int 1000000000000)), (7, "LETTERS", (.str "abcdefghijklmnopqrstuvwxyz"))], [(2, "LENGTHS", [("needs", (.int 4)), ("above", (.int 4)), ("below", (.int 4)), ("within", (.int 5)), ("safe", (.int 6))])], ["abs", "all", "any", "bool", "dict", "divmod", "enumerate", "int", "isinstance", "len", "max", "min", "range", "repr", "str", "tuple"], [.bool, .int, .str, .tuple]⟩
theorem okL : ld.ok = true := by kernel_rfl

theorem t_law_dip : DipOk (h_law_dip (phi ld.B (LL.drop 44))) := dip_ok
theorem t_law_any : AnyOk (h_law_any (phi ld.B (LL.drop 43))) := any_ok t_law_dip
theorem t_law_none2 : DrawsOf LNONE (fun n => h_law_none2 (phi ld.B (LL.drop 42)) [.obj n, F3]) := none2_ok t_law_any
theorem t_law_shared : SharedOk (h_law_shared (phi ld.B (LL.drop 41))) := shared_ok
theorem t_law_low2 : LowestOk (h_law_low2 (phi ld.B (LL.drop 40))) := low2_ok t_law_shared
theorem t_law_bad_rows : DrawsOf LROWS (fun n => h_law_bad_rows (phi ld.B (LL.drop 39)) [.obj n]) := bad_rows_ok t_law_any
theorem t_common : CommonOk (g_common (phi ld.B (LL.drop 38))) := fun t b S h => common_ok _ t b S h
theorem t_is_between : BetweenOk (g_is_between (phi ld.B (LL.drop 37))) := fun v lo hi S hv => between_ok hv lo hi
theorem t_is_fraction : FractionOk (g_is_fraction (phi ld.B (LL.drop 36))) := fun d S h => fraction_ok t_is_between t_common h
theorem t_table_in : TableInOk (g_table_in (phi ld.B (LL.drop 35))) := tableIn_ok t_is_fraction
theorem t_is_below : BelowOk (g_is_below (phi ld.B (LL.drop 34))) := fun k a b S hk ha hb => below_ok hk ha hb
theorem t_is_within : WithinOk (g_is_within (phi ld.B (LL.drop 33))) := ⟨fun k q lo hi S hk hq hl hh => within_qd t_is_fraction t_is_below hk hq hl hh, fun d x y S h hn => within_no t_is_fraction h hn⟩
theorem t_is_share : ShareOk (g_is_share (phi ld.B (LL.drop 32))) := ⟨fun k q S hk hq => share_qd t_is_within rfl rfl hk hq, fun d S hp hn => share_no t_is_within hp hn⟩
theorem t_is_about : AboutOk (g_is_about (phi ld.B (LL.drop 31))) := about_ok rfl t_is_between t_is_fraction t_is_share
theorem t_is_ascending : AscOk (g_is_ascending (phi ld.B (LL.drop 30))) := ⟨fun l S h => asc_L h, fun l S h => asc_T h⟩
theorem t_is_end : EndOk (g_is_end (phi ld.B (LL.drop 29))) := ⟨fun q S => end_num, fun c l S => end_arr⟩
theorem t_lost_places : LostOk (g_lost_places (phi ld.B (LL.drop 28))) := fun r S h1 h2 h3 => lost_ok t_is_end h1 h2 h3
theorem t_is_part : PartOk (g_is_part (phi ld.B (LL.drop 27))) := ⟨fun k q S hk hq => part_qd t_is_share rfl hk hq, fun l S => part_arr t_is_share⟩
theorem t_is_letter : LetterOk (g_is_letter (phi ld.B (LL.drop 26))) := fun c S => letter_ok rfl
theorem t_are_arrows : ArrowsOk (g_are_arrows (phi ld.B (LL.drop 25))) := fun l S hl h0 => arrows_ok t_is_letter t_is_ascending hl h0
theorem t_is_pair : PairOk (g_is_pair (phi ld.B (LL.drop 24))) := fun p S h1 h2 => pair_ok (c := p.1) (w := p.2) t_is_letter t_is_part t_are_arrows h1 h2
theorem t_are_rows : RowsOkF (g_are_rows (phi ld.B (LL.drop 23))) := fun r S h => rows_ok rfl t_is_pair t_is_ascending t_is_end t_lost_places h
theorem t_is_claim : ClaimOk (g_is_claim (phi ld.B (LL.drop 22))) := claim_ok rfl t_are_rows t_is_about
theorem t_ends_in : EndsInOk (g_ends_in (phi ld.B (LL.drop 21))) := endsIn_ok t_is_end
theorem t_begun : BegunOk (g_begun (phi ld.B (LL.drop 20))) := begun_ok t_is_end t_ends_in
theorem t_lesser : LesserOk minQ (g_lesser (phi ld.B (LL.drop 19))) := fun k a b S hk ha hb => lesser_ok t_is_below hk ha hb
theorem t_least : LeastOk minL (g_least (phi ld.B (LL.drop 18))) := least_L t_lesser
theorem t_greater : LesserOk maxQ (g_greater (phi ld.B (LL.drop 17))) := fun k a b S hk ha hb => greater_ok t_is_below hk ha hb
theorem t_greatest : LeastOk maxL (g_greatest (phi ld.B (LL.drop 16))) := greatest_L t_greater
theorem t_ends_of : EndsOfOk (g_ends_of (phi ld.B (LL.drop 15))) := ends_ok t_least t_greatest
theorem t_lowest : LowestOk (g_lowest (phi ld.B (LL.drop 14))) := lowest_ok t_common
theorem t_half : HalfOk (g_half (phi ld.B (LL.drop 13))) := fun k a S hk ha => half_ok t_lowest hk ha
theorem t_add : AddOk (· + ·) (g_add (phi ld.B (LL.drop 12))) := fun k a b S hk ha hb => add_ok t_lowest hk ha hb
theorem t_halved : HalvedOk (g_halved (phi ld.B (LL.drop 11))) := halved_ok t_ends_of t_add t_half
theorem t_moved : MovedOk (g_moved (phi ld.B (LL.drop 10))) := moved_ok t_is_end t_halved
theorem t_shows_within : WthOk (g_shows_within (phi ld.B (LL.drop 9))) := wth_ok rfl t_begun t_table_in t_moved
theorem t_less : AddOk (· - ·) (g_less (phi ld.B (LL.drop 8))) := fun k a b S hk ha hb => less_ok t_lowest hk ha hb
theorem t_stretch : StretchOk (g_stretch (phi ld.B (LL.drop 7))) := stretch_ok t_ends_of t_less
theorem t_shows_safe : SafeOk (g_shows_safe (phi ld.B (LL.drop 6))) := safe_ok t_is_end t_is_below t_stretch
theorem t_is_table : IsTableOk (g_is_table (phi ld.B (LL.drop 5))) := isTable_ok t_is_end t_halved
theorem t_accepts : AccOk (g_accepts (phi ld.B (LL.drop 4))) := acc_ok t_is_claim t_table_in t_is_table t_shows_within t_shows_safe t_is_below
-- no fact of law_path2
def AllF (f : D → Sto → Out D) : List D → Prop
  | [] => True
  | v :: l => (∀ S, f v S = .ok (.bl false) S) ∧ AllF f l
theorem AllF.mem {f : D → Sto → Out D} : ∀ {l : List D}, AllF f l → ∀ v ∈ l, ∀ S, f v S = .ok (.bl false) S
  | _ :: _, h, v, hv => by
    rcases List.mem_cons.mp hv with e | e
    · subst e; exact h.1
    · exact AllF.mem h.2 v e
theorem none_all : AllF (fun v S => g_is_claim (phi ld.B (LL.drop 22)) [v] S) LNONE := by
  unfold LNONE
  repeat (first | exact trivial | refine ⟨fun S => by kernel_rfl, ?_⟩)
theorem rows_all : AllF (fun v S => g_are_rows (phi ld.B (LL.drop 23)) [v] S) LROWS := by
  unfold LROWS
  repeat (first | exact trivial | refine ⟨fun S => by kernel_rfl, ?_⟩)
theorem bad_acc : BadOk (g_accepts (phi ld.B (LL.drop 4))) := fun v p S hv => by
  refine acc_none ?_
  rcases hv with hv | ⟨w, hw, R, hR, q, hq, rfl⟩
  · exact none_all.mem v hv S
  · exact claim_none (Φ := (phi ld.B (LL.drop 22))) rfl hw (rows_all.mem R hR S)
theorem rest_ok : RestOk (phi ld.B (LL.drop 2)) := by
  intro n h1 h8
  obtain rfl | rfl | rfl | rfl | rfl | rfl | rfl | rfl : n = 1 ∨ n = 2 ∨ n = 3 ∨ n = 4 ∨ n = 5 ∨ n = 6 ∨ n = 7 ∨ n = 8 := by omega
  all_goals exact fun m S a b c d e => by kernel_rfl
theorem t_law_right56 : RightOk (h_law_right56 (phi ld.B (LL.drop 2))) := right56_ok (Φ := (phi ld.B (LL.drop 2))) t_law_dip t_law_any t_law_none2 t_law_bad_rows bad_acc rest_ok
theorem t_law_urn : NewUrn (h_law_urn (phi ld.B (LL.drop 1))) := urn_ok
theorem law_true (ns : List Int) (h : ns.length ≤ 63) : ∃ S, f_law.run (phi ld.B LL) [.frz (ns.map D.int)] [] = .ok (.bl true) S := law_all (R := 2202) (U := 2108) (K := 4) (RightOk.cast t_law_right56 (by kernel_rfl)) t_law_urn (by decide) (by decide) ns h
/-! ### the head -/
abbrev R : PySem.W.OpenRow := PySem.W.OpenLaw.row PySem.Challenge.rw_biddingmoves_k77_claims_that_are_none
abbrev hk : PySem.W.Hook := hookR 5 ld.fa ld.fn ld.gls ld.tbs
def ob (s : PySem.W.SharedT) : AlR := obR 5 ld.fa ld.fn ld.gls ld.tbs s
def loose : List PySem.Str := (["__name__", "ZERO", "ONE", "is_between", "common", "lowest", "is_fraction", "add", "less", "is_below", "lesser", "greater"] : List Str) ++ (["half", "least", "greatest", "is_within", "is_share", "MOST_PLACES", "MOST_MOVES", "MOST_BOTTOM", "LETTERS", "is_letter", "is_part", "is_ascending"] : List Str) ++ (["are_arrows", "is_end", "is_pair", "lost_places", "are_rows", "ends_in", "ends_of", "halved", "stretch", "begun", "moved", "LENGTHS"] : List Str) ++ (["is_about", "is_claim", "table_in", "is_table", "shows_within", "shows_safe", "accepts", "_law_urn", "_law_dip", "_law_any", "_law_shared", "_law_low"] : List Str) ++ (["_law_bad_rows", "_law_none", "_law_path", "_law_right"] : List Str)
theorem run (w : World) : HandSHeadRun.RunEq R (PySem.W.view R.prog [58]) hk ob 6000 loose w :=
  PySem.W.byRow2 "special-get-raises" (P := fun w => HandSHeadRun.RunEq R (PySem.W.view R.prog [58]) hk ob 6000 loose w) (fun w => by
    intro os
    kernel_rfl) (fun w => by
    intro os
    kernel_rfl) w
end RF.K77
open PySem PySem.W PySem.Calls PyProof.Rows
theorem PySem.Challenge.cw_biddingmoves_k77_claims_that_are_none_holds : PySem.Challenge.rw_biddingmoves_k77_claims_that_are_none.Holds := by
  w_on; o_law
  refine HandSHeadRun.head_any (q := view RF.K77.R.prog [58]) (H := RF.K77.hk) (ob := RF.K77.ob) (M := 6000) (loose := RF.K77.loose) (d := HandSHeadRun.topDef RF.K77.R.prog 58) (kwd := []) (fun s => RF.obR_eq s)
    (by kernel_rfl) (fun s => by kernel_rfl) RF.K77.run (by kernel_rfl) (by kernel_rfl) (by kernel_rfl) (by rfl) (by first | assumption | decide +kernel) (by decide +kernel) ⟨rfl, rfl, rfl, rfl, rfl, by decide +kernel⟩ ?hw ?hc
  case hw => w_witness2
  case hc =>
    exact RF.law_walk (l := PySem.Challenge.rw_biddingmoves_k77_claims_that_are_none) (n := 63) (ld := RF.K77.ld) (dl := RF.K77.f_law) (sx := "script") rfl (by decide) (by kernel_rfl) rfl RF.K77.okL rfl rfl rfl (by kernel_rfl) ⟨rfl, by decide, by decide⟩ RF.K77.law_true
