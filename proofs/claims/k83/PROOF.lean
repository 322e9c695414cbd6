import PyProof.Rows.All
import Wide.All
import OpenK.AllK
import Wide.FinOn
import HandS.ForMost
import HandS.ForExc
import HandS.Star
import HandS.Defaults
import HandS.Deep
import HandS.Zip
import HandS.Conv
import HandS.TupAny
import HandS.TupMul
import HandS.Wide
import HandS.SortKw
import KE.DataFind
import HandS.Dict
import HandS.Style
import HandS.TupLe
import HandS.HeadEnd
import KE.GoesMore
import KE.GoesEnum
import HandS.More
import HandS.WordsDict
import HandS.TupLen
import KE.DataCmp
import KE.DataMinMax
import KE.SortData
import KE.KTupSum
import HandS.DictComp
import HandS.IsInst
import HandS.RaiseMore
import PyProof.ReprRoads
import KE.KRevSl
import KE.KDictZip
import HandS.DeepEq
import KE.KIndexOf
import PyProof.P3Eq
import PyProof.ReprBulk
import PySem.Challenge.RW_hookwide_k83_whole_steps_and_rows_ahead
import HandS.Head0
import HandS.Head1
import HandS.Head2
import HandS.HeadHook1
import HandS.HeadHook2
set_option Elab.async false
set_option linter.all false
set_option maxRecDepth 100000
set_option maxHeartbeats 4000000
/-! tuples of which it is known that they have no dict: their methods may be called -/
namespace L2
open PySem PySem.Spec PyProof.Rows
def TpO (H : Hp) (a : Addr) (vs : List V) : Prop := ∃ o : Obj, H a = some (.frz o (.tup vs)) ∧ o.cls = .type "tuple" ∧ o.dict = none
theorem TpO.le {H H' : Hp} {a : Addr} {vs : List V} (t : TpO H a vs) (h : ∀ a o, H a = some o → H' a = some o) : TpO H' a vs := by
  obtain ⟨o, e, c, d⟩ := t
  exact ⟨o, h _ _ e, c, d⟩
theorem TpO.sq {K : PySem.W.Frag} {H : Hp} {a : Addr} {vs : List V} (t : TpO H a vs) : SqT K H a vs := by
  obtain ⟨o, e, _⟩ := t
  exact .inl (.inr ⟨o, e⟩)
/-- what follows for each new tuple of these -/
def newT (H : Hp) (xs : List V) (Q : VK) : Prop := ∀ (p : Addr) (o : Obj), H p = none → o.cls = .type "tuple" → o.dict = none → Q (.ref p) (upd H p (.frz o (.tup xs)))
section
variable {X : Cx} {es : List Expr} {t : TA} {pos : Pos}
theorem laidT {pins : List (Addr × Obj)} {σ : St} {H : Hp} {s : Shared} {Q : VK} {xs : List V} {its : List Value} (I : Inv X pins σ H s) (r : Vals xs its) (hz : xs.length ≤ sizeLine) (q : newT H xs Q) :
    EP X pins σ Q (.ref s.heap.objs.size) { s with heap := s.heap.push { cls := .type "tuple", data := .seq its.toArray } } :=
  ⟨.ref s.heap.objs.size, _, I.laid (t' := s.toks) (o := .frz { cls := .type "tuple", data := .seq its.toArray } (.tup xs)) (fun b ob q => Heap.get?_push_of_some _ q) (Nat.le_refl _) ⟨Heap.get?_push_size _ rfl, hz, its, r, IsTup.new _ _⟩, rfl, q _ _ (I.hok.fresh (Nat.le_refl _)) rfl rfl⟩
def tTupM (t : TA) : TE := fun σ H Q => t σ H fun xs H1 => xs.length ≤ sizeLine ∧ newT H1 xs Q
theorem pe_tupM {x1} (h : PA X es t) : PE X (.Tuple es x1 pos) (tTupM t) := by
  refine ⟨fun pins s σ H Q I hq => ?_⟩
  refine wpAny_Tuple_spliced (thn (h.run pos pins s σ H _ I hq) fun us s1 ⟨xs, H1, I1, r, z, q⟩ => ⟨by rw [← r.length]; exact z, ?_⟩)
  exact laidT I1 r z q
def rCatM (K : PySem.W.Frag) : R2 := fun x y H Q => ∃ a b xs ys, x = .ref a ∧ y = .ref b ∧ SqT K H a xs ∧ SqT K H b ys ∧ xs.length + ys.length ≤ sizeLine ∧
  (xs = [] → Q (.ref b) H) ∧ (xs ≠ [] → ys = [] → Q (.ref a) H) ∧ (xs ≠ [] → ys ≠ [] → newT H (xs ++ ys) Q)
theorem op_catM : OpR X (binaryOp .Add) (rCatM X.K) := by
  intro pins s σ H x y v u Q I rx ry h
  obtain ⟨a, b, xs, ys, rfl, rfl, ha, hb, hz, q0, q1, q2⟩ := h
  cases rx
  cases ry
  obtain ⟨its, r1, p1, _⟩ := I.tuple ha
  obtain ⟨its2, r2, p2, _⟩ := I.tuple hb
  by_cases hx : xs = []
  · subst hx
    cases r1
    exact cat_tup0 p1 p2 ⟨.ref b, H, I, rfl, q0 rfl⟩
  · refine HT.cat_tup p1 p2 (fun z => hx (r1.nil_iff.mp z)) (fun z => ⟨.ref a, H, I, rfl, q1 hx (r2.nil_iff.mp z)⟩) (fun z => ?_) (by rw [← r1.length, ← r2.length]; exact hz)
    exact laidT I (r1.append r2) (by rw [List.length_append]; exact hz) (q2 hx fun w => z (r2.nil_iff.mpr w))
def rSlM (K : PySem.W.Frag) : V → Option Int → Option Int → Hp → VK → Prop := fun x lo hi H Q => ∃ a xs, x = .ref a ∧ SqT K H a xs ∧
  (HT.sIx xs.length 0 lo = 0 ∧ HT.sIx xs.length xs.length hi = xs.length → Q (.ref a) H) ∧ (¬ (HT.sIx xs.length 0 lo = 0 ∧ HT.sIx xs.length xs.length hi = xs.length) → newT H (cutV xs lo hi) Q)
theorem sl_tupM : SlR X (rSlM X.K) := by
  intro pins s σ H x v vl vu lo hi sl Q I rx hs pl pu h
  obtain ⟨a, xs, rfl, hx, q1, q2⟩ := h
  cases rx
  obtain ⟨its, r, ht, hz⟩ := I.tuple hx
  have hlen : its.toArray.size = xs.length := by rw [List.size_toArray]; exact r.length.symm
  refine ⟨"tuple", _, PyProof.Rows.slot_tuple_getitem.lookup, ht.typeIs, ?_⟩
  by_cases hw : HT.sIx xs.length 0 lo = 0 ∧ HT.sIx xs.length xs.length hi = xs.length
  · exact getItem_tuple_whole ht hs pl pu (by rw [hlen]; exact hw) ⟨.ref a, H, I, rfl, q1 hw⟩
  · refine HT.getItem_tuple_cut ht hs pl pu (by rw [hlen]; exact hw) ?_ (by rw [hlen]; exact hz)
    rw [hlen]
    exact laidT I ((r.drop (HT.sIx xs.length 0 lo)).take (HT.sIx xs.length xs.length hi - HT.sIx xs.length 0 lo)) (Nat.le_trans (cutV_length xs lo hi) hz) (q2 hw)
theorem call_tupleM : CallR X (.type "tuple") (fun xs H Q => ∃ p ys, xs = [.ref p] ∧ ((SqL X.K H p ys ∧ newT H ys Q) ∨ (SqT X.K H p ys ∧ Q (.ref p) H))) := by
  intro pins s σ H xs us Q I r h
  obtain ⟨p, ys, rfl, h⟩ := h
  obtain ⟨u, rfl, rx⟩ := vals1 r
  cases rx
  rcases h with ⟨hq, q⟩ | ⟨hq, q⟩
  · obtain ⟨its, r', pl, hz⟩ := I.list hq
    have hlen := r'.length
    refine call_tuple_list pl.isList (fun h' kp => ?_) (by simp only [List.size_toArray] <;> omega)
    have I1 : Inv X pins σ H { s with heap := h' } := I.kept (t' := s.toks) kp
    exact laidT I1 r' hz q
  · obtain ⟨its, r', pl, hz⟩ := I.tuple hq
    exact call_tuple_same pl ⟨.ref p, H, I, rfl, q⟩
def tTupRgM (te : St → Hp → (Int → Int → Hp → Prop) → Prop) : TE := fun σ H Q => te σ H fun a b H1 => RgOk a b ∧ newT H1 (rgV a b) Q
theorem pe_tupRgM {e : Expr} {te : St → Hp → (Int → Int → Hp → Prop) → Prop} {p pos : Pos} (hc : X.calm = true) (hg : Gl X "tuple") (hm : X.mg "tuple" = none) (he : PRg X e te) (na : starEach [e] X.env = (false, eval e X.env) :: starEach [] X.env := by rfl) : PE X (.Call (.Name "tuple" p) [e] [] pos) (tTupRgM te) := by
  refine ⟨fun pins s σ H Q I h => ?_⟩
  refine Call_ (ld_blt I hg hm boot_tuple (PyProof.Rows.callWith_type1 (args_cons (thn (he pins s σ H _ I h) fun x s1 ⟨r, a, b, t, u, v, H1, ex, hr, I1, ok, q⟩ => args_nil ?_) na) na))
  subst ex
  obtain ⟨b1, b2, b3, b4, b5⟩ := ok
  refine call_tuple_range (n := (b - a).toNat) (I1.ok.hd hc) hr (small_one b1 b2 b3 b4) (rangeSize_nat a b) b5 fun h' tk acc hk hi => ?_
  have I2 : Inv X pins σ H1 { s1 with heap := h', toks := tk } := I1.kept hk
  have := laidT (its := acc.toList) I2 (vals_rg hi) (by rw [rgV_length, sizeLine_eq]; omega) q
  rw [Array.toArray_toList] at this
  exact this
/-! t * k -/
def rRepM (K : PySem.W.Frag) : R2 := fun x y H Q => ∃ l k xs, x = .ref l ∧ y = .int k ∧ SqT K H l xs ∧ xs ≠ [] ∧ 2 ≤ k ∧ k ≤ 1000 ∧ xs.length ≤ 1000 ∧ newT H (List.replicate k.toNat xs).flatten Q
theorem op_repM : OpR X (binaryOp .Mult) (rRepM X.K) := by
  intro pins s σ H x y v u Q I rx ry h
  obtain ⟨l, k, xs, rfl, rfl, hT, hne, h1, h2, hz, q⟩ := h
  cases rx
  obtain ⟨t, rfl⟩ := ry
  obtain ⟨its, r, ⟨⟨cls, dd, data, sl⟩, ho, hc, n, hd⟩, hs⟩ := I.tuple hT
  simp only at hc hd
  subst hc hd
  have hle : its.length = xs.length := r.length.symm
  have hn : its ≠ [] := fun e => hne (by
    rw [e] at hle
    exact List.eq_nil_of_length_eq_zero hle.symm)
  have hi : its.toArray.isEmpty = false := by
    cases its with
    | nil => exact absurd rfl hn
    | cons a b => rfl
  have hsz0 : its.toArray.size = xs.length := by rw [List.size_toArray, hle]
  have hm : ((its.toArray.size : Nat) : Int) * k ≤ 1000000 := by
    rw [hsz0]
    have a1 : ((xs.length : Nat) : Int) * k ≤ 1000 * k := Int.mul_le_mul_of_nonneg_right (by omega) (by omega)
    omega
  have flen : (List.replicate k.toNat its).flatten.length ≤ sizeLine := by
    rw [PyProof.Rows.lm_len_rep_flat, hle, sizeLine_eq]
    have a1 : k.toNat * xs.length ≤ 1000 * 1000 := Nat.mul_le_mul (by omega) hz
    omega
  have c0 : (decide (k < -(2 ^ 63)) || decide (k ≥ 2 ^ 63)) = false := by
    rw [decide_eq_false (by omega), decide_eq_false (by omega)] <;> rfl
  have c1 : (its.toArray.isEmpty || k == 1) = false := by
    rw [hi, Bool.false_or]
    exact beq_eq_false_iff_ne.mpr (by omega)
  have c2 : (decide (k ≤ 0) || its.toArray.isEmpty) = false := by
    rw [hi, Bool.or_false]
    exact decide_eq_false (by omega)
  have c4 : Builtin.Tuple.tupleTooMany (((its.toArray.size : Nat) : Int) * k) = false := by
    unfold Builtin.Tuple.tupleTooMany
    rw [sizeLine_eq]
    exact decide_eq_false (by omega)
  refine wpAny_binaryOp_repeat_ref (T := "tuple") (U := "int") (by decide) ⟨_, ho, rfl⟩ (fun s' => typeIs_int s' k t) noFill_tuple_mul F.fills_int_mul F.slot_int_rmul repeat_tuple F.slot_int_index.lookup
    (call_meets F.slot_int_rmul (typeIs_int s k t) F.entry_int_rmul (F.args_int_rmul_2 _ _) (int_rmul_tuple k t l its.toArray n dd sl)
      ⟨ho, rfl, ⟨_, ho, rfl⟩, call_meets F.slot_tuple_mul ⟨_, ho, rfl⟩ F.entry_tuple_mul (F.args_tuple_mul_2 _ _) (tuple_mulW l its.toArray n dd sl k t c0 c1 c2 (by omega) c4 (by rw [size_rep, List.size_toArray]; exact flen)) ⟨ho, ?_⟩⟩)
  rw [size_rep]
  exact laidT I (r.rep k.toNat) (by rw [PyProof.Rows.lm_len_rep_flat, sizeLine_eq]; have a1 : k.toNat * xs.length ≤ 1000 * 1000 := Nat.mul_le_mul (by omega) hz; omega) q
/-! t.m(x) -/
def tBMT (r : V → List V → Hp → VK → Prop) (to : TE) (t : TA) : TE := fun σ H Q => to σ H fun x H1 => (∃ a vs, x = .ref a ∧ TpO H1 a vs) ∧ t σ H1 fun xs H2 => r x xs H2 Q
theorem pe_bmT {o e : Expr} {es : List Expr} {to : TE} {t : TA} {name : Str} {apos cpos : Pos} {id : String} {r : V → List V → Hp → VK → Prop} (pa : PlainAttrs "tuple") (slot : Slot "tuple" name id) (hty : typeOf (.builtin id) = pure (.type "method_descriptor")) (hm : MtR X id r) (ho : PE X o to) (ha : PA X (e :: es) t)
    (hbase : attributeBase o name X.env (eval o X.env) = eval o X.env := by rfl)
    (hfew : ((backTo cpos (starEach (e :: es) X.env)).all (fun x => !x.1) && (backToKw cpos (keywordEach [] X.env)).all (fun x => x.1.isSome)
      && decide ((e :: es).length + ([] : List Keyword).length + (if ([] : List Keyword).isEmpty then 0 else 1) < 30)) = true := by rfl)
    (hline : (apos.endLine == cpos.line) = true := by rfl) (hs : starEach (e :: es) X.env = (false, eval e X.env) :: starEach es X.env := by rfl) (hplain : (backTo cpos (starEach es X.env)).any (·.1) = false := by rfl) :
    PE X (.Call (.Attribute o name apos) (e :: es) [] cpos) (tBMT r to t) := by
  refine ⟨fun pins s σ H Q I h => ?_⟩
  refine wpAny_Call_method_late hbase hfew hline rfl (thn (ho.run pins s σ H _ I h) fun v s1 ⟨x, H1, I1, r1, ty, q1⟩ => ?_)
  obtain ⟨a, vs, ex, ob, eo, oc, od⟩ := ty
  subst ex
  cases r1
  have hg : s1.heap.get? a = some ob := (show ObjOk X.prog X.w H1 s1.heap a (.frz ob (.tup vs)) from I1.hok a _ eo).1
  refine ⟨"tuple", id, pa, slot, hty, ⟨ob, hg, oc⟩, fun a' e => ?_, ?_⟩
  · cases e
    exact ⟨ob, hg, od⟩
  have hA := ha.run cpos pins s1 σ H1 _ I1 q1
  rw [hs] at hA ⊢
  refine Calls.callWith_builtin (by show (false || (backTo cpos (starEach es X.env)).any (·.1)) = false; rw [hplain] <;> rfl) (Calls.evalArgs_plain ?_)
  exact thn hA fun us s2 ⟨vs', H2, I2, r2, q2⟩ => hm pins s2 σ H2 (.ref a) vs' (.ref a) us Q I2 rfl r2 q2
end
end L2

set_option Elab.async false
set_option linter.all false
set_option maxRecDepth 100000
set_option maxHeartbeats 4000000
/-! dicts whose keys are tuples of ints that are known to their objects -/
namespace L2
open PySem PySem.Spec PyProof.Rows
abbrev XsR := List (List Int × Addr × V)
def kvX (xs : XsR) : List (List Key × V) := xs.map fun p => (p.1.map Sum.inl, p.2.2)
def putX (xs : XsR) (k : List Int) (b : Addr) (v : V) : XsR := if (xs.any fun p => decide (p.1 = k)) = true then xs.map (fun p => if p.1 = k then (p.1, p.2.1, v) else p) else xs ++ [(k, b, v)]
abbrev XR (xs : XsR) (ys : List (List Int × Addr × Value)) : Prop := Paired (fun p q => p.1 = q.1 ∧ p.2.1 = q.2.1 ∧ RelV p.2.2 q.2.2) xs ys
/-- the object at a is a dict of these entries -/
def phiR (a : Addr) (xs : XsR) : Heap → Prop := fun h => (a == sysModules) = false ∧ ∃ ys, XR xs ys ∧ ∃ o es ep, h.get? a = some o ∧ o.ExactDict ∧ o.data = .dict es ep ∧ (∀ (P : Program) (w : World), es.toList = ys.map (entryOfKey (tupleKind (intKind P w)))) ∧ (ys.map (·.1)).Nodup
theorem entry_eq (P P' : Program) (w w' : World) : entryOfKey (tupleKind (intKind P w)) = entryOfKey (tupleKind (intKind P' w')) := rfl
theorem inl_inj : ∀ {a b : List Int}, a.map (Sum.inl : Int → Key) = b.map Sum.inl → a = b
  | [], [], _ => rfl
  | [], _ :: _, h => by cases h
  | _ :: _, [], h => by cases h
  | x :: a, y :: b, h => by
    rw [List.map_cons, List.map_cons, List.cons.injEq] at h
    rw [inl_inj h.2, Sum.inl.inj h.1]
theorem inl_iff {a b : List Int} : a.map (Sum.inl : Int → Key) = b.map Sum.inl ↔ a = b := ⟨inl_inj, fun h => by rw [h]⟩
theorem XR.val {xs : XsR} {ys : List (List Int × Addr × Value)} (r : XR xs ys) (k : List Int) : RelO (valV (kvX xs) (k.map Sum.inl)) ((atKey ys k).map (·.2)) := by
  induction r with
  | nil => exact True.intro
  | @cons p q ps qs h t ih =>
    obtain ⟨h1, h2, h3⟩ := h
    unfold valV atKey kvX at *
    rw [List.map_cons, List.find?_cons, List.find?_cons]
    by_cases e : p.1 = k
    · rw [decide_eq_true (show ((p.1.map Sum.inl, p.2.2) : List Key × V).1 = k.map Sum.inl from by rw [e]), decide_eq_true (by rw [← h1]; exact e)]
      exact h3
    · rw [decide_eq_false (show ¬ ((p.1.map Sum.inl, p.2.2) : List Key × V).1 = k.map Sum.inl from fun z => e (inl_inj z)), decide_eq_false (by rw [← h1]; exact e)]
      exact ih
theorem XR.any {xs : XsR} {ys : List (List Int × Addr × Value)} (r : XR xs ys) (k : List Int) : (xs.any fun p => decide (p.1 = k)) = (atKey ys k).isSome := by
  induction r with
  | nil => rfl
  | @cons p q ps qs h t ih =>
    obtain ⟨h1, h2, h3⟩ := h
    unfold atKey at *
    rw [List.any_cons, List.find?_cons, ih, h1]
    by_cases e : q.1 = k
    · rw [decide_eq_true e]; rfl
    · rw [decide_eq_false e]; rfl
theorem XR.repl {xs : XsR} {ys : List (List Int × Addr × Value)} (r : XR xs ys) (k : List Int) {v : V} {u : Value} (rv : RelV v u) : XR (xs.map fun p => if p.1 = k then (p.1, p.2.1, v) else p) (ys.map (putAt k u)) := by
  induction r with
  | nil => exact .nil
  | @cons p q ps qs h t ih =>
    obtain ⟨h1, h2, h3⟩ := h
    rw [List.map_cons, List.map_cons]
    refine .cons ?_ ih
    unfold putAt
    by_cases e : p.1 = k
    · rw [if_pos e, if_pos (by rw [← h1]; exact e)]
      exact ⟨h1, h2, rv⟩
    · rw [if_neg e, if_neg (by rw [← h1]; exact e)]
      exact ⟨h1, h2, h3⟩
theorem XR.snoc {xs : XsR} {ys : List (List Int × Addr × Value)} (r : XR xs ys) (k : List Int) (b : Addr) {v : V} {u : Value} (rv : RelV v u) : XR (xs ++ [(k, b, v)]) (ys ++ [(k, b, u)]) := by
  induction r with
  | nil => exact .cons ⟨rfl, rfl, rv⟩ .nil
  | @cons p q ps qs h t ih => exact .cons h ih
theorem XR.put {xs : XsR} {ys : List (List Int × Addr × Value)} (r : XR xs ys) (k : List Int) (b : Addr) {v : V} {u : Value} (rv : RelV v u) : XR (putX xs k b v) (storedH ys k b u) := by
  unfold putX storedH
  rw [r.any k]
  split
  · exact r.repl k rv
  · exact r.snoc k b rv
theorem kvX_put (xs : XsR) (k : List Int) (b : Addr) (v : V) : kvX (putX xs k b v) = putK (kvX xs) (k.map Sum.inl) v := by
  unfold putX putK kvX
  have e : ((xs.map fun p => ((p.1.map Sum.inl, p.2.2) : List Key × V)).any fun kv => decide (kv.1 = k.map Sum.inl)) = xs.any fun p => decide (p.1 = k) := by
    rw [List.any_map]
    congr 1
    funext p
    exact decide_eq_decide.mpr inl_iff
  rw [e]
  split
  · rw [List.map_map, List.map_map]
    refine List.map_congr_left fun p _ => ?_
    show _ = (if ((p.1.map Sum.inl, p.2.2) : List Key × V).1 = k.map Sum.inl then _ else _)
    by_cases z : p.1 = k
    · rw [if_pos (show ((p.1.map Sum.inl, p.2.2) : List Key × V).1 = k.map Sum.inl from by rw [z])]
      show (((if p.1 = k then (p.1, p.2.1, v) else p).1.map Sum.inl, (if p.1 = k then (p.1, p.2.1, v) else p).2.2) : List Key × V) = _
      rw [if_pos z]
    · rw [if_neg (show ¬ ((p.1.map Sum.inl, p.2.2) : List Key × V).1 = k.map Sum.inl from fun y => z (inl_inj y))]
      show (((if p.1 = k then (p.1, p.2.1, v) else p).1.map Sum.inl, (if p.1 = k then (p.1, p.2.1, v) else p).2.2) : List Key × V) = _
      rw [if_neg z]
  · rw [List.map_append]; rfl
theorem putX_len (xs : XsR) (k : List Int) (b : Addr) (v : V) : (putX xs k b v).length ≤ xs.length + 1 := by
  unfold putX
  split
  · rw [List.length_map]; omega
  · rw [List.length_append]; exact Nat.le_refl _
theorem putX_mem {xs : XsR} {k : List Int} {b : Addr} {v : V} {C : List Int → Addr → Prop} (h : ∀ p ∈ xs, C p.1 p.2.1) (hk : C k b) : ∀ p ∈ putX xs k b v, C p.1 p.2.1 := fun p hp => by
  unfold putX at hp
  split at hp
  · obtain ⟨q, hq, rfl⟩ := List.mem_map.mp hp
    have := h q hq
    split <;> exact this
  · rcases List.mem_append.mp hp with z | z
    · exact h p z
    · rw [List.mem_singleton.mp z]; exact hk
/-- keys are tuples that stand -/
def KeysX (H : Hp) (xs : XsR) : Prop := ∀ p ∈ xs, TpO H p.2.1 (p.1.map V.int)
theorem items_int {P : Program} {w : World} : ∀ {ks : List Int} {us : List Value}, Vals (ks.map V.int) us → ItemsAre (intKind P w) ks us
  | [], _, r => by rw [List.map_nil] at r; cases r; exact .nil
  | k :: ks, _, r => by
    rw [List.map_cons] at r
    cases r with
    | cons h t =>
      obtain ⟨u, rfl⟩ := h
      exact .cons (by show (k == k) = true; exact beq_self_eq_true k) (items_int t)
section
variable {P : Program} {w : World} {H : Hp} {h : Heap} {a : Addr}
theorem key_int {ks : List Int} (ok : HOk P w H h) (t : TpO H a (ks.map V.int)) : (tupleKind (intKind P w)).is h ks a := by
  obtain ⟨o, e, c, d⟩ := t
  obtain ⟨e1, _, its, r, ob, h1, h2, n, h3⟩ := (show ObjOk P w H h a (.frz o (.tup (ks.map V.int))) from ok a _ e)
  exact ⟨ob, its.toArray, n, h1, h2, h3, by simpa using items_int r⟩
/-- what is told of a place holds of the object's own -/
theorem phi_own {b : Addr} {xs : XsR} (ok : ObjOk P w H h a (.ext (phiR b xs))) : b = a := by
  obtain ⟨p, ⟨o, e⟩, st⟩ := ok
  by_cases z : b = a
  · exact z
  · exfalso
    have := st h { h with objs := h.objs.setIfInBounds b { cls := .none, data := .plain } } p fun o q => by
      have e1 : (h.objs.setIfInBounds b { cls := .none, data := .plain })[a]? = h.objs[a]? := Array.getElem?_setIfInBounds_ne (fun y => z y)
      unfold Heap.get? at q ⊢
      dsimp only
      rw [e1]
      exact q
    obtain ⟨_, ys, _, o2, es, ep, q, _, d, _⟩ := this
    obtain ⟨_, ys', _, o3, es', ep', q3, _⟩ := p
    have hb : b < h.objs.size := Heap.lt_size q3
    unfold Heap.get? at q
    dsimp only at q
    rw [Array.getElem?_setIfInBounds_self_of_lt hb] at q
    cases q
    cases d
theorem dr_rd {b : Addr} {xs : XsR} (ok : HOk P w H h) (e : Rd H a (.ext (phiR b xs))) (hk : KeysX H xs) : b = a ∧ (a == sysModules) = false ∧ ∃ ys, XR xs ys ∧ h.DictOfH (tupleKind (intKind P w)) a ys := by
  have x := e.ok ok
  have eb := phi_own x
  subst eb
  obtain ⟨⟨hd, ys, r, o, es, ep, h1, h2, h3, h4, h5⟩, _⟩ := x
  refine ⟨rfl, hd, ys, r, o, es, ep, h1, h2, h3, h4 P w, ?_, h5⟩
  have all : ∀ {l : XsR} {m : List (List Int × Addr × Value)}, XR l m → (∀ p ∈ l, TpO H p.2.1 (p.1.map V.int)) → ∀ x ∈ m, (tupleKind (intKind P w)).is h x.1 x.2.1 := by
    intro l m q
    induction q with
    | nil => intro _ x hx; exact nomatch hx
    | @cons p q ps qs hh t ih =>
      intro hl x hx
      rcases List.mem_cons.mp hx with e | hx
      · subst e
        rw [← hh.1, ← hh.2.1]
        exact key_int ok (hl p List.mem_cons_self)
      · exact ih (fun p hp => hl p (List.mem_cons_of_mem _ hp)) x hx
  exact all r hk
theorem dr_new {xs : XsR} {ys : List (List Int × Addr × Value)} {H' : Hp} (hd : (a == sysModules) = false) (r : XR xs ys) (dd : h.DictOfH (tupleKind (intKind P w)) a ys) : ObjOk P w H' h a (.ext (phiR a xs)) := by
  obtain ⟨o, es, ep, h1, h2, h3, h4, _, h5⟩ := dd
  refine ⟨⟨hd, ys, r, o, es, ep, h1, h2, h3, fun P' w' => by rw [entry_eq P' P w' w]; exact h4, h5⟩, ⟨o, h1⟩, fun g1 g2 ⟨hd, ys, r, o, es, ep, h1, h⟩ st => ⟨hd, ys, r, o, es, ep, st _ h1, h⟩⟩
end
def DGetR (H : Hp) (a : Addr) (y : V) (r : Option V) : Prop := ∃ (b : Addr) (xs : XsR) (k : List Int) (c : Addr), Rd H a (.ext (phiR b xs)) ∧ KeysX H xs ∧ y = .ref c ∧ TpO H c (k.map V.int) ∧ r = valV (kvX xs) (k.map Sum.inl)
def DPutR (H : Hp) (a : Addr) (y v : V) (H' : Hp) : Prop := ∃ (b : Addr) (xs : XsR) (k : List Int) (c : Addr), H a = some (.ext (phiR b xs)) ∧ KeysX H xs ∧ y = .ref c ∧ TpO H c (k.map V.int) ∧ xs.length < sizeLine ∧ H' = upd H a (.ext (phiR a (putX xs k c v)))
def DGx (H : Hp) (a : Addr) (y : V) (r : Option V) : Prop := DGet H a y r ∨ DGetR H a y r
def DPx (H : Hp) (a : Addr) (y v : V) (H' : Hp) : Prop := DPut H a y v H' ∨ DPutR H a y v H'
section
variable {X : Cx} {pins : List (Addr × Obj)} {σ : St} {H : Hp} {s : Shared} {a : Addr} {y v : V} {u r : Value} {o : Option V} {A : Around} {E : Value → Shared → Prop}
theorem d_getItemX {Q : Value → Shared → Prop} (hu : A.units + 1 < cLine) (I : Inv X pins σ H s) (g : DGx H a y (some v)) (ry : RelV y u) (h : ∀ w' s', Inv X pins σ H s' → RelV v w' → Q w' s') : wpAny (model X.prog X.w) A (getItem (.ref a) u) Q E s := by
  rcases g with g | ⟨b, xs, k, c, e, hk, ey, ec, l⟩
  · exact d_getItem hu I g ry h
  · subst ey
    cases (show u = Value.ref c from ry)
    obtain ⟨_, hd, ys, rel, dd⟩ := dr_rd I.hok e hk
    obtain ⟨w', hw, rw'⟩ := RelO.some_of (v := v) (o := (atKey ys k).map (·.2)) (by rw [l]; exact rel.val k)
    obtain ⟨p, hp, hp2⟩ := Option.map_eq_some_iff.mp hw
    refine wpAny_getItem_heap (tupleKind_room_in1 hu) (key_int I.hok ec) dd hp ?_
    rw [hp2]
    exact h w' _ (I.tok _) rw'
theorem d_inX {Q : Value → Shared → Prop} (hu : A.units + 1 < cLine) (I : Inv X pins σ H s) (g : DGx H a y o) (ry : RelV y u) (h : ∀ s', Inv X pins σ H s' → Q (.bool o.isSome) s') : wpAny (model X.prog X.w) A (compareOp .In u (.ref a)) Q E s := by
  rcases g with g | ⟨b, xs, k, c, e, hk, ey, ec, l⟩
  · exact d_in hu I g ry h
  · subst ey
    cases (show u = Value.ref c from ry)
    obtain ⟨_, hd, ys, rel, dd⟩ := dr_rd I.hok e hk
    refine wpAny_in_heap (tupleKind_room_in1 hu) (key_int I.hok ec) hd dd ?_
    have q := (rel.val k).isSome_eq
    rw [Option.isSome_map] at q
    rw [← q, ← l]
    exact h _ (I.tok _)
theorem d_notInX {Q : Value → Shared → Prop} (hu : A.units + 1 < cLine) (I : Inv X pins σ H s) (g : DGx H a y o) (ry : RelV y u) (h : ∀ s', Inv X pins σ H s' → Q (.bool (!o.isSome)) s') : wpAny (model X.prog X.w) A (compareOp .NotIn u (.ref a)) Q E s := by
  rcases g with g | ⟨b, xs, k, c, e, hk, ey, ec, l⟩
  · exact d_notIn hu I g ry h
  · subst ey
    cases (show u = Value.ref c from ry)
    obtain ⟨_, hd, ys, rel, dd⟩ := dr_rd I.hok e hk
    refine wpAny_notIn_heap (tupleKind_room_in1 hu) (key_int I.hok ec) hd dd ?_
    have q := (rel.val k).isSome_eq
    rw [Option.isSome_map] at q
    rw [← q, ← l]
    exact h _ (I.tok _)
theorem d_setItemX {H' : Hp} {Q : Unit → Shared → Prop} (hu : A.units + 1 < cLine) (I : Inv X pins σ H s) (g : DPx H a y v H') (ry : RelV y u) (rv : RelV v r) (h : ∀ s', Inv X pins σ H' s' → Q () s') : wpAny (model X.prog X.w) A (setItem (.ref a) u r) Q E s := by
  rcases g with g | ⟨b, xs, k, c, e, hk, ey, ec, hl, eH⟩
  · exact d_setItem hu I g ry rv h
  · subst ey eH
    cases (show u = Value.ref c from ry)
    obtain ⟨_, hd, ys, rel, dd⟩ := dr_rd I.hok (.inl e) hk
    have hz : ys.length ≤ sizeLine := by rw [← Paired.length rel]; omega
    refine wpAny_setItem_heap (hsz := hz) (tupleKind_room_in1 hu) (key_int I.hok ec) dd fun h' dd' hs => h _ ?_
    have he : ∃ q, h'.get? a = some q := let ⟨q, _, _, hq, _⟩ := dd'; ⟨q, hq⟩
    exact d_write I (by rw [e]; exact True.intro) hs he (dr_new hd (rel.put k c rv) dd')
theorem dict_typeIsX (I : Inv X pins σ H s) (g : DGx H a y o) : s.TypeIs (.ref a) "dict" := by
  rcases g with g | ⟨b, xs, k, c, e, hk, ey, ec, l⟩
  · exact dict_typeIs I g
  · obtain ⟨_, hd, ys, rel, dd⟩ := dr_rd I.hok e hk
    exact dd.typeIs
end
def tDGetX (td ty : TE) : TE := fun σ H Q => td σ H fun x H1 => ty σ H1 fun y H2 => ∃ a v, x = .ref a ∧ DGx H2 a y (some v) ∧ Q v H2
def tDInX (ty td : TE) : TE := fun σ H Q => ty σ H fun y H1 => td σ H1 fun x H2 => ∃ a o, x = .ref a ∧ DGx H2 a y o ∧ Q (.bl o.isSome) H2
def tDNotInX (ty td : TE) : TE := fun σ H Q => ty σ H fun y H1 => td σ H1 fun x H2 => ∃ a o, x = .ref a ∧ DGx H2 a y o ∧ Q (.bl (!o.isSome)) H2
section
variable {X : Cx} {o i e : Expr} {pos : Pos} {td ty : TE}
theorem pe_dgetX (hu : X.A.units + 1 < cLine) (ho : PE X o td) (hi : PE X i ty) (hs : NoSl i) : PE X (.Subscript o i pos) (tDGetX td ty) := by
  refine ⟨fun pins s σ H Q I h => ?_⟩
  refine subD_of PySem.F.slot_dict_getitem.lookup hs (thn (ho.run pins s σ H _ I h) fun u s1 ⟨x, H1, I1, rx, q1⟩ => thn (hi.run pins s1 σ H1 _ I1 q1) fun iv s2 ⟨y, H2, I2, ry, a, v, ex, g, q2⟩ => ?_)
  subst ex
  obtain rfl : u = Value.ref a := rx
  exact ⟨dict_typeIsX I2 g, d_getItemX hu I2 g ry fun w' s3 I3 rw' => ⟨v, H2, I3, rw', q2⟩⟩
theorem pc_dinX (hu : X.A.units + 1 < cLine) (hi : PE X i ty) (ho : PE X o td) : PC X .In i o (tDInX ty td) := by
  refine ⟨fun pins s σ H Q I h => ?_⟩
  refine thn (hi.run pins s σ H _ I h) fun iv s1 ⟨y, H1, I1, ry, q1⟩ => thn (ho.run pins s1 σ H1 _ I1 q1) fun u s2 ⟨x, H2, I2, rx, a, ov, ex, g, q2⟩ => ?_
  subst ex
  obtain rfl : u = Value.ref a := rx
  exact d_inX hu I2 g ry fun s3 I3 => ⟨.bl ov.isSome, H2, I3, rfl, q2⟩
theorem pc_dnotinX (hu : X.A.units + 1 < cLine) (hi : PE X i ty) (ho : PE X o td) : PC X .NotIn i o (tDNotInX ty td) := by
  refine ⟨fun pins s σ H Q I h => ?_⟩
  refine thn (hi.run pins s σ H _ I h) fun iv s1 ⟨y, H1, I1, ry, q1⟩ => thn (ho.run pins s1 σ H1 _ I1 q1) fun u s2 ⟨x, H2, I2, rx, a, ov, ex, g, q2⟩ => ?_
  subst ex
  obtain rfl : u = Value.ref a := rx
  exact d_notInX hu I2 g ry fun s3 I3 => ⟨.bl (!ov.isSome), H2, I3, rfl, q2⟩
/-- {}, to be a dict of such keys -/
def tDNewX : TE := fun _ H Q => ∀ p, H p = none → Q (.ref p) (upd H p (.ext (phiR p [])))
theorem pe_dnewX : PE X (.Dict [] [] pos) tDNewX := ⟨fun pins s σ H Q I h =>
  wpAny_Dict_empty ⟨.ref s.heap.objs.size, _, I.laid (a := s.heap.objs.size) (o := .ext (phiR s.heap.objs.size [])) (t' := s.toks) (fun _ _ q => Heap.get?_push_of_some _ q) (Nat.le_refl _)
    (dr_new (P := X.prog) (w := X.w) (beq_eq_false_iff_ne.mpr (Ne.symm (Nat.ne_of_lt I.big))) .nil (Heap.DictOfH.new s.heap)), rfl, h _ (I.hok.fresh (Nat.le_refl _))⟩⟩
end
end L2
namespace L2
open PySem PySem.Spec PyProof.Rows
theorem KeysX.le {H H' : Hp} {xs : XsR} (t : KeysX H xs) (h : ∀ a o, H a = some o → H' a = some o) : KeysX H' xs := fun p hp => (t p hp).le h
end L2

set_option Elab.async false
set_option linter.all false
set_option maxRecDepth 100000
set_option maxHeartbeats 4000000
/-! DL: a layer of data over the hand layer. A def's promise is a plain function over data. -/
namespace DL
open PySem PySem.Spec PyProof.Rows L2

/-- data -/
inductive D where
  | non | bl (b : Bool) | int (i : Int) | str (s : Str)
  | tup (ds : List D) | lst (ds : List D) | fls (ds : List D) | ftp (ds : List D)
  | dck (kvs : List (D × D)) | dct (kvs : List (D × D))
  | glb (x : Str)
  | cell (n : Nat)

/-- an exception: its class's name, what it keeps -/
structure Exc where
  cls : Str
  pay : List (Str × D)

/-- the cells: lists that are changed by others than who made them -/
abbrev Wd := List (List D)
inductive R (α : Type) where
  | ok (a : α) (w : Wd)
  | exc (e : Exc) (w : Wd)
  | stuck
abbrev M (α : Type) := Wd → R α
namespace M
@[reducible] def pure {α : Type} (a : α) : M α := fun w => .ok a w
@[reducible] def stuck {α : Type} : M α := fun _ => .stuck
def bind {α β : Type} (m : M α) (k : α → M β) : M β := fun w => match m w with
  | .ok a w' => k a w'
  | .exc e w' => .exc e w'
  | .stuck => .stuck
def ofOption {α : Type} : Option α → M α
  | some a => fun w => .ok a w
  | none => fun _ => .stuck
end M

/-- what a slot holds: nothing that is known, a value that is never changed again, a list or dict of the def's own -/
inductive Sl where
  | no | frz (d : D) | own (d : D)
abbrev Ev := List Sl
abbrev EX (α : Type) := Ev → M α

/-- the concrete part of the world: what is never changed again, the cells' places -/
structure Wst where
  F : Hp
  ads : List Addr

def keyD : Key → D
  | .inl i => .int i
  | .inr x => .str x

mutual
def Rep (K : PySem.W.Frag) (mg : Str → Option Value) (W : Wst) : D → V → Prop
  | .non, v => v = .non
  | .bl b, v => v = .bl b
  | .int i, v => v = .int i
  | .str s, v => v = .str s
  | .tup ds, v => ∃ a vs, v = .ref a ∧ TpO W.F a vs ∧ Reps K mg W ds vs
  | .ftp ds, v => ∃ a vs, v = .ref a ∧ SqT K W.F a vs ∧ Reps K mg W ds vs
  | .lst ds, v => ∃ a vs, v = .ref a ∧ W.F a = some (.lst vs) ∧ Reps K mg W ds vs
  | .fls ds, v => ∃ a vs, v = .ref a ∧ SqL K W.F a vs ∧ Reps K mg W ds vs
  | .dck kvs, v => ∃ a ob, v = .ref a ∧ ∃ kk : List (Key × V), W.F a = some (.frz ob (.dK kk)) ∧ RepK K mg W kvs kk
  | .dct kvs, v => ∃ a ob, v = .ref a ∧ ∃ (b : Addr) (xs : XsR), W.F a = some (.frz ob (.ext (phiR b xs))) ∧ KeysX W.F xs ∧ xs.length ≤ sizeLine ∧ RepT K mg W kvs (kvX xs)
  | .glb x, v => ∃ u, mg x = some u ∧ RelV v u
  | .cell n, v => ∃ a, W.ads[n]? = some a ∧ v = .ref a
def Reps (K : PySem.W.Frag) (mg : Str → Option Value) (W : Wst) : List D → List V → Prop
  | [], vs => vs = []
  | d :: ds, vs => ∃ v r, vs = v :: r ∧ Rep K mg W d v ∧ Reps K mg W ds r
def RepK (K : PySem.W.Frag) (mg : Str → Option Value) (W : Wst) : List (D × D) → List (Key × V) → Prop
  | [], kk => kk = []
  | (k, d) :: r, kk => ∃ q v t, kk = (q, v) :: t ∧ k = keyD q ∧ Rep K mg W d v ∧ RepK K mg W r t
def RepT (K : PySem.W.Frag) (mg : Str → Option Value) (W : Wst) : List (D × D) → List (List Key × V) → Prop
  | [], kk => kk = []
  | (k, d) :: r, kk => ∃ q v t, kk = (q, v) :: t ∧ k = .tup (q.map keyD) ∧ Rep K mg W d v ∧ RepT K mg W r t
end

structure Wle (W W' : Wst) : Prop where
  f : ∀ a o, W.F a = some o → W'.F a = some o
  a : ∀ (n : Nat) a, W.ads[n]? = some a → W'.ads[n]? = some a
theorem Wle.refl (W : Wst) : Wle W W := ⟨fun _ _ h => h, fun _ _ h => h⟩
theorem Wle.trans {W W' W'' : Wst} (h : Wle W W') (h' : Wle W' W'') : Wle W W'' := ⟨fun a o e => h'.f a o (h.f a o e), fun n a e => h'.a n a (h.a n a e)⟩

section
variable {K : PySem.W.Frag} {mg : Str → Option Value} {W W' : Wst}
theorem Rd.le {H H' : Hp} (h : ∀ a o, H a = some o → H' a = some o) {a : Addr} {u : HO} (r : Rd H a u) : Rd H' a u := by
  rcases r with r | ⟨o, r⟩
  · exact .inl (h _ _ r)
  · exact .inr ⟨o, h _ _ r⟩
theorem SqL.le {H H' : Hp} (h : ∀ a o, H a = some o → H' a = some o) {a : Addr} {xs : List V} (r : SqL K H a xs) : SqL K H' a xs := by
  rcases r with r | r
  · exact .inl (Rd.le h r)
  · exact .inr r
theorem SqT.le {H H' : Hp} (h : ∀ a o, H a = some o → H' a = some o) {a : Addr} {xs : List V} (r : SqT K H a xs) : SqT K H' a xs := by
  rcases r with r | r
  · exact .inl (Rd.le h r)
  · exact .inr r

mutual
theorem Rep.le (L : Wle W W') : ∀ (d : D) (v : V), Rep K mg W d v → Rep K mg W' d v
  | .non, v, h => by rw [Rep] at h ⊢; exact h
  | .bl b, v, h => by rw [Rep] at h ⊢; exact h
  | .int i, v, h => by rw [Rep] at h ⊢; exact h
  | .str s, v, h => by rw [Rep] at h ⊢; exact h
  | .tup ds, v, h => by
    rw [Rep] at h ⊢
    obtain ⟨a, vs, e, q, r⟩ := h
    exact ⟨a, vs, e, q.le L.f, Reps.le L ds vs r⟩
  | .ftp ds, v, h => by
    rw [Rep] at h ⊢
    obtain ⟨a, vs, e, q, r⟩ := h
    exact ⟨a, vs, e, SqT.le L.f q, Reps.le L ds vs r⟩
  | .lst ds, v, h => by
    rw [Rep] at h ⊢
    obtain ⟨a, vs, e, q, r⟩ := h
    exact ⟨a, vs, e, L.f _ _ q, Reps.le L ds vs r⟩
  | .fls ds, v, h => by
    rw [Rep] at h ⊢
    obtain ⟨a, vs, e, q, r⟩ := h
    exact ⟨a, vs, e, SqL.le L.f q, Reps.le L ds vs r⟩
  | .dck kvs, v, h => by
    rw [Rep] at h ⊢
    obtain ⟨a, ob, e, kk, q, r⟩ := h
    exact ⟨a, ob, e, kk, L.f _ _ q, RepK.le L kvs kk r⟩
  | .dct kvs, v, h => by
    rw [Rep] at h ⊢
    obtain ⟨a, ob, e, b, xs, q, hk, hl, r⟩ := h
    exact ⟨a, ob, e, b, xs, L.f _ _ q, hk.le L.f, hl, RepT.le L kvs (kvX xs) r⟩
  | .glb x, v, h => by rw [Rep] at h ⊢; exact h
  | .cell n, v, h => by
    rw [Rep] at h ⊢
    obtain ⟨a, e, q⟩ := h
    exact ⟨a, L.a _ _ e, q⟩
theorem Reps.le (L : Wle W W') : ∀ (ds : List D) (vs : List V), Reps K mg W ds vs → Reps K mg W' ds vs
  | [], vs, h => by rw [Reps] at h ⊢; exact h
  | d :: ds, vs, h => by
    rw [Reps] at h ⊢
    obtain ⟨v, r, e, q, t⟩ := h
    exact ⟨v, r, e, Rep.le L d v q, Reps.le L ds r t⟩
theorem RepK.le (L : Wle W W') : ∀ (kvs : List (D × D)) (kk : List (Key × V)), RepK K mg W kvs kk → RepK K mg W' kvs kk
  | [], kk, h => by rw [RepK] at h ⊢; exact h
  | (k, d) :: r, kk, h => by
    rw [RepK] at h ⊢
    obtain ⟨q, v, t, e, e2, x, y⟩ := h
    exact ⟨q, v, t, e, e2, Rep.le L d v x, RepK.le L r t y⟩
theorem RepT.le (L : Wle W W') : ∀ (kvs : List (D × D)) (kk : List (List Key × V)), RepT K mg W kvs kk → RepT K mg W' kvs kk
  | [], kk, h => by rw [RepT] at h ⊢; exact h
  | (k, d) :: r, kk, h => by
    rw [RepT] at h ⊢
    obtain ⟨q, v, t, e, e2, x, y⟩ := h
    exact ⟨q, v, t, e, e2, Rep.le L d v x, RepT.le L r t y⟩
end
end
end DL

set_option Elab.async false
set_option linter.all false
set_option maxRecDepth 100000
set_option maxHeartbeats 4000000
namespace DL
open PySem PySem.Spec PyProof.Rows L2

/-- what stands at an address is the data -/
def RepO (K : PySem.W.Frag) (mg : Str → Option Value) (W : Wst) (d : D) (o : HO) : Prop := match d, o with
  | .lst ds, .lst vs => Reps K mg W ds vs
  | .dck kvs, .dK kk => RepK K mg W kvs kk
  | .dct kvs, .ext φ => ∃ (b : Addr) (xs : XsR), φ = phiR b xs ∧ KeysX W.F xs ∧ xs.length ≤ sizeLine ∧ RepT K mg W kvs (kvX xs)
  | _, _ => False
theorem RepO.le {K : PySem.W.Frag} {mg : Str → Option Value} {W W' : Wst} {d : D} {o : HO} (L : Wle W W') (h : RepO K mg W d o) : RepO K mg W' d o := by
  unfold RepO at h ⊢
  split at h
  · exact Reps.le L _ _ h
  · exact RepK.le L _ _ h
  · obtain ⟨b, xs, e, hk, hl, r⟩ := h
    exact ⟨b, xs, e, hk.le L.f, hl, RepT.le L _ _ r⟩
  · exact h.elim
theorem RepO.mut {K : PySem.W.Frag} {mg : Str → Option Value} {W : Wst} {d : D} {o : HO} (h : RepO K mg W d o) : Mut (some o) := by
  unfold RepO at h
  split at h
  · trivial
  · trivial
  · trivial
  · exact h.elim

/-- the value is the data, now -/
def Con (K : PySem.W.Frag) (mg : Str → Option Value) (W : Wst) (H : Hp) (d : D) (v : V) : Prop :=
  Rep K mg W d v ∨ ∃ a o, v = .ref a ∧ H a = some o ∧ RepO K mg W d o ∧ ∀ (n : Nat), W.ads[n]? ≠ some a

structure WR (K : PySem.W.Frag) (mg : Str → Option Value) (w : Wd) (H : Hp) (W : Wst) : Prop where
  sub : ∀ a o, W.F a = some o → H a = some o
  len : W.ads.length = w.length
  cell : ∀ (n : Nat) a ds, W.ads[n]? = some a → w[n]? = some ds → ∃ vs, H a = some (.lst vs) ∧ Reps K mg W ds vs
  nf : ∀ (n : Nat) a, W.ads[n]? = some a → W.F a = none
  nd : ∀ (m n : Nat) a, W.ads[m]? = some a → W.ads[n]? = some a → m = n

structure Grow (W : Wst) (H : Hp) (W' : Wst) (H' : Hp) : Prop where
  le : Wle W W'
  keep : ∀ a o, H a = some o → (∀ (n : Nat), W.ads[n]? ≠ some a) → H' a = some o
  nofz : ∀ a o, H a = some o → Mut (some o) → W.F a = none → (∀ (n : Nat), W.ads[n]? ≠ some a) → W'.F a = none
  noad : ∀ a o (n : Nat), H a = some o → W'.ads[n]? = some a → ∃ (m : Nat), W.ads[m]? = some a

theorem Grow.refl (W : Wst) (H : Hp) : Grow W H W H := ⟨Wle.refl W, fun _ _ h _ => h, fun _ _ _ _ h _ => h, fun _ _ n _ h => ⟨n, h⟩⟩
theorem Grow.nad {W : Wst} {H : Hp} {W' : Wst} {H' : Hp} (g : Grow W H W' H') {a : Addr} {o : HO} (h : H a = some o) (n : ∀ (n : Nat), W.ads[n]? ≠ some a) : ∀ (n : Nat), W'.ads[n]? ≠ some a := fun m e => by
  obtain ⟨k, q⟩ := g.noad a o m h e
  exact n k q
theorem Grow.trans {W : Wst} {H : Hp} {W' : Wst} {H' : Hp} {W'' : Wst} {H'' : Hp} (g : Grow W H W' H') (g' : Grow W' H' W'' H'') : Grow W H W'' H'' where
  le := g.le.trans g'.le
  keep := fun a o h n => g'.keep a o (g.keep a o h n) (g.nad h n)
  nofz := fun a o h mu f n => g'.nofz a o (g.keep a o h n) mu (g.nofz a o h mu f n) (g.nad h n)
  noad := fun a o n h e => by
    by_cases q : ∃ (m : Nat), W.ads[m]? = some a
    · exact q
    · have nq : ∀ (n : Nat), W.ads[n]? ≠ some a := fun n z => q ⟨n, z⟩
      obtain ⟨m, z⟩ := g'.noad a o n (g.keep a o h nq) e
      exact g.noad a o m h z

section
variable {K : PySem.W.Frag} {mg : Str → Option Value} {W W' : Wst} {H H' : Hp} {w w' : Wd}
theorem Con.grow {d : D} {v : V} (g : Grow W H W' H') (h : Con K mg W H d v) : Con K mg W' H' d v := by
  rcases h with h | ⟨a, o, e, q, r, n⟩
  · exact .inl (Rep.le g.le d v h)
  · exact .inr ⟨a, o, e, g.keep a o q n, r.le g.le, g.nad q n⟩

/-- the slots; H0: the heap at the def's entry -/
structure SR (K : PySem.W.Frag) (mg : Str → Option Value) (H0 : Hp) (Γ : Ev) (σ : L2.St) (H : Hp) (W : Wst) : Prop where
  len : Γ.length = σ.length
  frz : ∀ (i : Nat) d, Γ[i]? = some (.frz d) → ∃ v, σ[i]? = some (some v) ∧ Rep K mg W d v
  own : ∀ (i : Nat) d, Γ[i]? = some (.own d) → ∃ a o, σ[i]? = some (some (.ref a)) ∧ H a = some o ∧ RepO K mg W d o ∧ W.F a = none ∧ (∀ (n : Nat), W.ads[n]? ≠ some a) ∧ H0 a = none
  inj : ∀ (i j : Nat) d e a, Γ[i]? = some (.own d) → Γ[j]? = some (.own e) → σ[i]? = some (some (.ref a)) → σ[j]? = some (some (.ref a)) → i = j
theorem SR.grow {H0 : Hp} {Γ : Ev} {σ : L2.St} (g : Grow W H W' H') (h : SR K mg H0 Γ σ H W) : SR K mg H0 Γ σ H' W' where
  len := h.len
  frz := fun i d e => by
    obtain ⟨v, q, r⟩ := h.frz i d e
    exact ⟨v, q, Rep.le g.le d v r⟩
  own := fun i d e => by
    obtain ⟨a, o, q, hh, r, f, n, z⟩ := h.own i d e
    exact ⟨a, o, q, g.keep a o hh n, r.le g.le, g.nofz a o hh r.mut f n, g.nad hh n, z⟩
  inj := h.inj

/-- an exception: its class, its own dict -/
def RepX (K : PySem.W.Frag) (mg : Str → Option Value) (W : Wst) (H : Hp) (e : Exc) (cls : Value) (o : Option Addr) : Prop :=
  mg e.cls = some cls ∧ match e.pay with
    | [] => o = none
    | pay => ∃ a fs, o = some a ∧ H a = some (.xd fs) ∧ W.F a = none ∧ (∀ (n : Nat), W.ads[n]? ≠ some a) ∧ Paired (fun (p : Str × D) (q : Str × V) => p.1 = q.1 ∧ Rep K mg W p.2 q.2) pay fs

/-- how a computation ends -/
def Post {α : Type} (K : PySem.W.Frag) (mg : Str → Option Value) (Wx : Value → Option Addr → Hp → Prop) (W : Wst) (H : Hp) (r : R α) (P : α → Wd → Hp → Wst → Prop) : Prop := match r with
  | .ok a w' => ∀ H' W', Grow W H W' H' → WR K mg w' H' W' → P a w' H' W'
  | .exc e w' => ∀ cls o H' W', Grow W H W' H' → WR K mg w' H' W' → RepX K mg W' H' e cls o → Wx cls o H'
  | .stuck => False
variable {Wx : Value → Option Addr → Hp → Prop}
theorem Post.bind {α β : Type} {m : M α} {k : α → M β} {P : β → Wd → Hp → Wst → Prop} (h : Post K mg Wx W H (m.bind k w) P) : Post K mg Wx W H (m w) (fun a w1 H1 W1 => Post K mg Wx W1 H1 (k a w1) P) := by
  unfold M.bind at h
  unfold Post at h ⊢
  split at h
  · rename_i b w' e
    split
    · rename_i a w1 e1
      intro H1 W1 g1 r1
      rw [e1] at e
      simp only at e
      rw [e]
      exact fun H2 W2 g2 r2 => h H2 W2 (g1.trans g2) r2
    · rename_i e1; rw [e1] at e; cases e
    · rename_i e1; rw [e1] at e; cases e
  · rename_i x w' e
    split
    · rename_i a w1 e1
      intro H1 W1 g1 r1
      rw [e1] at e
      simp only at e
      rw [e]
      exact fun cls o H2 W2 g2 r2 => h cls o H2 W2 (g1.trans g2) r2
    · rename_i e1; rw [e1] at e; cases e; exact h
    · rename_i e1; rw [e1] at e; cases e
  · exact h.elim
/-- all from the same start -/
theorem Post.bind' {α β : Type} {m : M α} {k : α → M β} {P : β → Wd → Hp → Wst → Prop} (h : Post K mg Wx W H (m.bind k w) P) : Post K mg Wx W H (m w) (fun a w1 _ _ => Post K mg Wx W H (k a w1) P) := by
  unfold M.bind at h
  cases z : m w with
  | ok a w1 => rw [z] at h; exact fun _ _ _ _ => h
  | exc e w1 => rw [z] at h; exact h
  | stuck => rw [z] at h; exact h.elim
theorem Post.opt {α : Type} {o : Option α} {P : α → Wd → Hp → Wst → Prop} (h : Post K mg Wx W H (M.ofOption o w) P) : ∃ a, o = some a ∧ ∀ H' W', Grow W H W' H' → WR K mg w H' W' → P a w H' W' := by
  cases o with
  | none => exact h.elim
  | some a => exact ⟨a, rfl, h⟩
theorem Post.mono {α : Type} {r : R α} {P P' : α → Wd → Hp → Wst → Prop} (h : Post K mg Wx W H r P) (f : ∀ a w' H' W', Grow W H W' H' → WR K mg w' H' W' → P a w' H' W' → P' a w' H' W') : Post K mg Wx W H r P' := by
  unfold Post at h ⊢
  split at h
  · exact fun H' W' g r => f _ _ H' W' g r (h H' W' g r)
  · exact h
  · exact h
/-- from a later state -/
theorem Post.later {α : Type} {W1 : Wst} {H1 : Hp} {r : R α} {P : α → Wd → Hp → Wst → Prop} (g : Grow W H W1 H1) (h : Post K mg Wx W H r P) : Post K mg Wx W1 H1 r P := by
  unfold Post at h ⊢
  split at h
  · exact fun H' W' g' r => h H' W' (g.trans g') r
  · exact fun cls o H' W' g' r => h cls o H' W' (g.trans g') r
  · exact h
end

/-! ### readings -/
abbrev WX' := Value → Option Addr → L2.St → Hp → Prop
/-- an expression whose value is never changed again -/
def tF (K : PySem.W.Frag) (mg : Str → Option Value) (Wx : WX') (f : EX D) : TE := fun σ H Q => ∃ H0 Γ w W, WR K mg w H W ∧ SR K mg H0 Γ σ H W ∧
  Post K mg (fun c o H => Wx c o σ H) W H (f Γ w) fun d w' H' W' => ∀ v, Rep K mg W' d v → Q v H'
/-- one whose value is looked at, and then let go -/
def tP (K : PySem.W.Frag) (mg : Str → Option Value) (Wx : WX') (f : EX D) : TE := fun σ H Q => ∃ H0 Γ w W, WR K mg w H W ∧ SR K mg H0 Γ σ H W ∧
  Post K mg (fun c o H => Wx c o σ H) W H (f Γ w) fun d w' H' W' => ∀ v, Con K mg W' H' d v → Q v H'
/-- one that makes a new list or dict -/
def tN (K : PySem.W.Frag) (mg : Str → Option Value) (Wx : WX') (f : EX D) : TE := fun σ H Q => ∃ H0 Γ w W, WR K mg w H W ∧ SR K mg H0 Γ σ H W ∧
  Post K mg (fun c o H => Wx c o σ H) W H (f Γ w) fun d w' H' W' => ∀ a o, H' a = some o → RepO K mg W' d o → W'.F a = none → (∀ (n : Nat), W'.ads[n]? ≠ some a) → H a = none → Q (.ref a) H'
/-- several arguments, looked at; never changed again -/
def tPs (K : PySem.W.Frag) (mg : Str → Option Value) (Wx : WX') (f : EX (List D)) : TA := fun σ H Q => ∃ H0 Γ w W, WR K mg w H W ∧ SR K mg H0 Γ σ H W ∧
  Post K mg (fun c o H => Wx c o σ H) W H (f Γ w) fun ds w' H' W' => ∀ vs, Paired (Con K mg W' H') ds vs → Q vs H'
def tFs (K : PySem.W.Frag) (mg : Str → Option Value) (Wx : WX') (f : EX (List D)) : TA := fun σ H Q => ∃ H0 Γ w W, WR K mg w H W ∧ SR K mg H0 Γ σ H W ∧
  Post K mg (fun c o H => Wx c o σ H) W H (f Γ w) fun ds w' H' W' => ∀ vs, Reps K mg W' ds vs → Q vs H'
/-- a test -/
def tB (K : PySem.W.Frag) (mg : Str → Option Value) (Wx : WX') (f : EX Bool) : TT := fun σ H Q => ∃ H0 Γ w W, WR K mg w H W ∧ SR K mg H0 Γ σ H W ∧
  Post K mg (fun c o H => Wx c o σ H) W H (f Γ w) fun b w' H' W' => Q b H'

def eBind {α β : Type} (f : EX α) (k : α → EX β) : EX β := fun Γ => (f Γ).bind fun a => k a Γ
def ePure {α : Type} (a : α) : EX α := fun _ w => .ok a w

structure DF (X : Cx) (Wx : WX') (e : Expr) (f : EX D) : Prop where
  pe : PE X e (tF X.K X.mg Wx f)
structure DP (X : Cx) (Wx : WX') (e : Expr) (f : EX D) : Prop where
  pe : PE X e (tP X.K X.mg Wx f)
structure DN (X : Cx) (Wx : WX') (e : Expr) (f : EX D) : Prop where
  pe : PE X e (tN X.K X.mg Wx f)
structure DT (X : Cx) (Wx : WX') (e : Expr) (f : EX Bool) : Prop where
  pt : PT X e (tB X.K X.mg Wx f)
structure DPs (X : Cx) (Wx : WX') (es : List Expr) (f : EX (List D)) : Prop where
  pa : PA X es (tPs X.K X.mg Wx f)
structure DFs (X : Cx) (Wx : WX') (es : List Expr) (f : EX (List D)) : Prop where
  pa : PA X es (tFs X.K X.mg Wx f)

theorem pe_imp {X : Cx} {e : Expr} {t t' : TE} (h : PE X e t) (i : ∀ σ H Q, t' σ H Q → t σ H Q) : PE X e t' := ⟨fun pins s σ H Q I q => h.run pins s σ H Q I (i σ H Q q)⟩
theorem pt_imp {X : Cx} {e : Expr} {t t' : TT} (h : PT X e t) (i : ∀ σ H Q, t' σ H Q → t σ H Q) : PT X e t' := ⟨fun pins s σ H Q I q => h.run pins s σ H Q I (i σ H Q q)⟩
theorem pa_imp {X : Cx} {es : List Expr} {t t' : TA} (h : PA X es t) (i : ∀ σ H Q, t' σ H Q → t σ H Q) : PA X es t' := ⟨fun pos pins s σ H Q I q => h.run pos pins s σ H Q I (i σ H Q q)⟩

section
variable {K : PySem.W.Frag} {mg : Str → Option Value} {Wx : WX'}
/-- a new object is laid and left the def's own; laid and never changed again -/
theorem Grow.lay {W : Wst} {H : Hp} {p : Addr} {o : HO} (h : H p = none) : Grow W H W (upd H p o) where
  le := Wle.refl W
  keep := fun a u e _ => by rw [upd_ne (ne_of_none e h)]; exact e
  nofz := fun _ _ _ _ f _ => f
  noad := fun a u n _ e => ⟨n, e⟩
def Wst.put (W : Wst) (p : Addr) (o : HO) : Wst := ⟨upd W.F p o, W.ads⟩
theorem Wle.put {W : Wst} {p : Addr} {o : HO} (h : W.F p = none) : Wle W (W.put p o) := ⟨fun a u e => by
  show (upd W.F p o) a = some u
  rw [upd_ne (ne_of_none e h)]; exact e, fun _ _ e => e⟩
/-- what stands at p is never changed again -/
theorem Grow.freeze {W : Wst} {H : Hp} {p : Addr} {o : HO} (h : W.F p = none) {W0 : Wst} {H0 : Hp} (g : Grow W0 H0 W H) (n : H0 p = none) : Grow W0 H0 (W.put p o) H where
  le := g.le.trans (Wle.put h)
  keep := g.keep
  nofz := fun a u e mu f na => by
    have z := g.nofz a u e mu f na
    show (upd W.F p o) a = none
    rw [upd_ne (ne_of_none e n)]; exact z
  noad := fun a u m e q => g.noad a u m e q
theorem WR.fresh {w : Wd} {H : Hp} {W : Wst} (r : WR K mg w H W) {p : Addr} (h : H p = none) (hl : W.ads.length = w.length) : W.F p = none ∧ ∀ (n : Nat), W.ads[n]? ≠ some p := by
  refine ⟨?_, fun n e => ?_⟩
  · cases q : W.F p with
    | none => rfl
    | some o => have := r.sub _ _ q; rw [h] at this; cases this
  · have hn : n < w.length := by rw [← hl]; exact (List.getElem?_eq_some_iff.mp e).1
    obtain ⟨vs, q, _⟩ := r.cell n p w[n] e (List.getElem?_eq_getElem hn)
    rw [h] at q; cases q
theorem WR.lay {w : Wd} {H : Hp} {W : Wst} (r : WR K mg w H W) {p : Addr} {o : HO} (h : H p = none) : WR K mg w (upd H p o) W where
  sub := fun a u e => by have z := r.sub a u e; rw [upd_ne (ne_of_none z h)]; exact z
  len := r.len
  cell := fun n a ds e1 e2 => by
    obtain ⟨vs, q, t⟩ := r.cell n a ds e1 e2
    exact ⟨vs, by rw [upd_ne (ne_of_none q h)]; exact q, t⟩
  nf := r.nf
  nd := r.nd
theorem WR.freeze {w : Wd} {H : Hp} {W : Wst} (r : WR K mg w H W) {p : Addr} {o : HO} (h : H p = some o) (f : W.F p = none) (n : ∀ (n : Nat), W.ads[n]? ≠ some p) : WR K mg w H (W.put p o) where
  sub := fun a u e => by
    by_cases z : a = p
    · subst z
      have : (upd W.F a o) a = some u := e
      rw [upd_same] at this; cases this; exact h
    · have : (upd W.F p o) a = some u := e
      rw [upd_ne z] at this; exact r.sub a u this
  len := r.len
  cell := fun m a ds e1 e2 => by
    obtain ⟨vs, q, t⟩ := r.cell m a ds e1 e2
    exact ⟨vs, q, Reps.le (Wle.put f) ds vs t⟩
  nf := fun m a e => by
    show (upd W.F p o) a = none
    rw [upd_ne (fun z => n m (by rw [← z]; exact e))]; exact r.nf m a e
  nd := r.nd
/-- a tuple that stands is never changed -/
theorem Grow.freezeT {W : Wst} {H : Hp} {p : Addr} {vs : List V} (h : H p = some (.tup vs)) (f : W.F p = none) : Grow W H (W.put p (.tup vs)) H where
  le := Wle.put f
  keep := fun a u e na => e
  nofz := fun a u e mu f' na => by
    show (upd W.F p _) a = none
    rw [upd_ne]
    · exact f'
    · intro z; subst z; rw [h] at e; cases e; exact mu
  noad := fun a u m e q => ⟨m, q⟩
/-- as it stands when it is never changed again -/
def frzO (ob : Obj) : HO → HO
  | .lst vs => .lst vs
  | o => .frz ob o
theorem RepO.rep {W : Wst} {d : D} {o : HO} {p : Addr} (ob : Obj) (h : RepO K mg W d o) (f : W.F p = none) : Rep K mg (W.put p (frzO ob o)) d (.ref p) := by
  have L : Wle W (W.put p (frzO ob o)) := Wle.put f
  have e : (W.put p (frzO ob o)).F p = some (frzO ob o) := upd_same
  unfold RepO at h
  split at h
  · rw [Rep]; exact ⟨p, _, rfl, e, Reps.le L _ _ h⟩
  · rw [Rep]; exact ⟨p, ob, rfl, _, e, RepK.le L _ _ h⟩
  · obtain ⟨b, xs, e0, hk, hl, r⟩ := h
    subst e0
    rw [Rep]; exact ⟨p, ob, rfl, b, xs, e, hk.le L.f, hl, RepT.le L _ _ r⟩
  · exact h.elim
theorem Grow.freezeO {W : Wst} {H : Hp} {p : Addr} {o : HO} (h : W.F p = none) {W0 : Wst} {H0 : Hp} (g : Grow W0 H0 W H) (n : H0 p = none) : Grow W0 H0 (W.put p o) (upd H p o) where
  le := g.le.trans (Wle.put h)
  keep := fun a u e na => by rw [upd_ne (ne_of_none e n)]; exact g.keep a u e na
  nofz := fun a u e mu f na => by
    have z := g.nofz a u e mu f na
    show (upd W.F p o) a = none
    rw [upd_ne (ne_of_none e n)]; exact z
  noad := fun a u m e q => g.noad a u m e q
theorem WR.freezeO {w : Wd} {H : Hp} {W : Wst} (r : WR K mg w H W) {p : Addr} {o : HO} (f : W.F p = none) (n : ∀ (n : Nat), W.ads[n]? ≠ some p) : WR K mg w (upd H p o) (W.put p o) where
  sub := fun a u e => by
    have e : (upd W.F p o) a = some u := e
    by_cases z : a = p
    · subst z
      rw [upd_same] at e ⊢; exact e
    · rw [upd_ne z] at e ⊢; exact r.sub a u e
  len := r.len
  cell := fun m a ds e1 e2 => by
    obtain ⟨vs, q, t⟩ := r.cell m a ds e1 e2
    exact ⟨vs, by rw [upd_ne (fun z => n m (by rw [← z]; exact e1))]; exact q, Reps.le (Wle.put f) ds vs t⟩
  nf := fun m a e => by
    show (upd W.F p o) a = none
    rw [upd_ne (fun z => n m (by rw [← z]; exact e))]; exact r.nf m a e
  nd := r.nd
end

section
variable {X : Cx} {Wx : WX'} {e : Expr} {fe : EX D}
/-- a value that is looked at may be one that is never changed -/
theorem DF.p (h : DF X Wx e fe) : DP X Wx e fe := ⟨pe_imp h.pe fun σ H Q ⟨H0, Γ, w, W, r, s, p⟩ => ⟨H0, Γ, w, W, r, s, p.mono fun d w' H' W' _ _ q v z => q v (.inl z)⟩⟩
/-- what stands at a is locked, for ever -/
theorem pe_lockv {t : TE} (h : PE X e t) : PE X e (fun σ H Q => t σ H fun v H' => Q v H' ∨ ∃ a u, v = .ref a ∧ H' a = some u ∧ Mut (some u) ∧ ∀ ob, Q v (upd H' a (.frz ob u))) := ⟨fun pins s σ H Q I hw =>
  thn (h.run pins s σ H _ I hw) fun u s' ⟨v, H', I', r, q⟩ => by
    rcases q with q | ⟨a, u', e1, e2, mu, q⟩
    · exact ⟨v, H', I', r, q⟩
    · obtain ⟨ob, I2⟩ := I'.lock e2 mu
      exact ⟨v, _, I2, r, q ob⟩⟩
/-- a new thing, never changed from now on -/
theorem DN.f (h : DN X Wx e fe) : DF X Wx e fe := ⟨pe_imp (pe_lockv h.pe) fun σ H Q ⟨H0, Γ, w, W, r, s, p⟩ => ⟨H0, Γ, w, W, r, s, by
  unfold Post at p ⊢
  split at p
  · rename_i d w' _
    intro H' W' g r' a o e1 e2 e3 e4 e5
    cases o with
    | lst vs =>
      refine .inl (p H' (W'.put a (.lst vs)) (g.freeze e3 e5) (r'.freeze e1 e3 e4) (.ref a) (e2.rep (o := .lst vs) { cls := .none, data := .fields #[] } e3))
    | dK kk => exact .inr ⟨a, _, rfl, e1, trivial, fun ob => p _ _ (g.freezeO e3 e5) (r'.freezeO e3 e4) (.ref a) (e2.rep ob e3)⟩
    | ext φ => exact .inr ⟨a, _, rfl, e1, trivial, fun ob => p _ _ (g.freezeO e3 e5) (r'.freezeO e3 e4) (.ref a) (e2.rep ob e3)⟩
    | _ => exact (by unfold RepO at e2; split at e2 <;> first | exact e2.elim | (rename_i z _; cases z) | (rename_i z; cases z))
  · exact p
  · exact p⟩⟩
theorem DN.p (h : DN X Wx e fe) : DP X Wx e fe := h.f.p
end
end DL

set_option Elab.async false
set_option linter.all false
set_option maxRecDepth 100000
set_option maxHeartbeats 4000000
namespace DL
open PySem PySem.Spec PyProof.Rows L2
section
variable {K : PySem.W.Frag} {mg : Str → Option Value} {W : Wst} {H : Hp} {w : Wd} {x : V}
theorem Reps.length : ∀ {ds : List D} {vs : List V}, Reps K mg W ds vs → ds.length = vs.length
  | [], vs, h => by rw [Reps] at h; rw [h]; rfl
  | d :: ds, vs, h => by
    rw [Reps] at h
    obtain ⟨v, r, e, _, q⟩ := h
    rw [e, List.length_cons, List.length_cons, Reps.length q]
theorem Reps.get : ∀ {ds : List D} {vs : List V} {i : Nat} {d : D}, Reps K mg W ds vs → ds[i]? = some d → ∃ v, vs[i]? = some v ∧ Rep K mg W d v
  | [], vs, i, d, h, e => by simp at e
  | d' :: ds, vs, i, d, h, e => by
    rw [Reps] at h
    obtain ⟨v, r, e2, q, q2⟩ := h
    subst e2
    cases i with
    | zero => simp at e; subst e; exact ⟨v, by simp, q⟩
    | succ i =>
      obtain ⟨u, a, b⟩ := Reps.get (i := i) q2 (by simpa using e)
      exact ⟨u, by simpa using a, b⟩
theorem Reps.nil : Reps K mg W [] [] := by rw [Reps]
theorem Reps.cons {d : D} {ds : List D} {v : V} {vs : List V} (a : Rep K mg W d v) (b : Reps K mg W ds vs) : Reps K mg W (d :: ds) (v :: vs) := by rw [Reps]; exact ⟨v, vs, rfl, a, b⟩
theorem Reps.append : ∀ {ds es : List D} {vs us : List V}, Reps K mg W ds vs → Reps K mg W es us → Reps K mg W (ds ++ es) (vs ++ us)
  | [], es, vs, us, h, h' => by rw [Reps] at h; subst h; exact h'
  | d :: ds, es, vs, us, h, h' => by
    rw [Reps] at h
    obtain ⟨v, r, e, q, q2⟩ := h
    subst e
    exact Reps.cons q (Reps.append q2 h')
theorem Reps.take : ∀ {ds : List D} {vs : List V} (n : Nat), Reps K mg W ds vs → Reps K mg W (ds.take n) (vs.take n)
  | ds, vs, 0, h => by simp; exact Reps.nil
  | [], vs, n + 1, h => by rw [Reps] at h; subst h; exact Reps.nil
  | d :: ds, vs, n + 1, h => by
    rw [Reps] at h
    obtain ⟨v, r, e, q, q2⟩ := h
    subst e
    exact Reps.cons q (Reps.take n q2)
theorem Reps.drop : ∀ {ds : List D} {vs : List V} (n : Nat), Reps K mg W ds vs → Reps K mg W (ds.drop n) (vs.drop n)
  | ds, vs, 0, h => h
  | [], vs, n + 1, h => by rw [Reps] at h; subst h; exact Reps.nil
  | d :: ds, vs, n + 1, h => by
    rw [Reps] at h
    obtain ⟨v, r, e, q, q2⟩ := h
    subst e
    exact Reps.drop n q2
theorem Reps.reverse : ∀ {ds : List D} {vs : List V}, Reps K mg W ds vs → Reps K mg W ds.reverse vs.reverse
  | [], vs, h => by rw [Reps] at h; subst h; exact Reps.nil
  | d :: ds, vs, h => by
    rw [Reps] at h
    obtain ⟨v, r, e, q, q2⟩ := h
    subst e
    rw [List.reverse_cons, List.reverse_cons]
    exact Reps.append (Reps.reverse q2) (Reps.cons q Reps.nil)
theorem Reps.set : ∀ {ds : List D} {vs : List V} {d : D} {v : V} (i : Nat), Reps K mg W ds vs → Rep K mg W d v → Reps K mg W (ds.set i d) (vs.set i v)
  | [], vs, d, v, i, h, q => by rw [Reps] at h; subst h; exact Reps.nil
  | d' :: ds, vs, d, v, 0, h, q => by
    rw [Reps] at h
    obtain ⟨u, r, e, _, q2⟩ := h
    subst e
    exact Reps.cons q q2
  | d' :: ds, vs, d, v, i + 1, h, q => by
    rw [Reps] at h
    obtain ⟨u, r, e, q1, q2⟩ := h
    subst e
    exact Reps.cons q1 (Reps.set i q2 q)
theorem Reps.rep {ds : List D} {vs : List V} (h : Reps K mg W ds vs) : ∀ n : Nat, Reps K mg W (List.replicate n ds).flatten (List.replicate n vs).flatten
  | 0 => by simp; exact Reps.nil
  | n + 1 => by
    rw [List.replicate_succ, List.replicate_succ, List.flatten_cons, List.flatten_cons]
    exact Reps.append h (Reps.rep h n)
theorem Reps.ints : ∀ (ns : List Int), Reps K mg W (ns.map D.int) (ns.map V.int)
  | [] => Reps.nil
  | n :: ns => Reps.cons (by rw [Rep]) (Reps.ints ns)

theorem Con.int {i : Int} (h : Con K mg W H (.int i) x) : x = .int i := by
  rcases h with h | ⟨a, o, e, q, r, n⟩
  · rw [Rep] at h; exact h
  · exact r.elim
theorem Con.bl {i : Bool} (h : Con K mg W H (.bl i) x) : x = .bl i := by
  rcases h with h | ⟨a, o, e, q, r, n⟩
  · rw [Rep] at h; exact h
  · exact r.elim
theorem Con.non (h : Con K mg W H .non x) : x = .non := by
  rcases h with h | ⟨a, o, e, q, r, n⟩
  · rw [Rep] at h; exact h
  · exact r.elim
theorem Con.str {i : Str} (h : Con K mg W H (.str i) x) : x = .str i := by
  rcases h with h | ⟨a, o, e, q, r, n⟩
  · rw [Rep] at h; exact h
  · exact r.elim
theorem Con.glb {i : Str} (h : Con K mg W H (.glb i) x) : ∃ u, mg i = some u ∧ RelV x u := by
  rcases h with h | ⟨a, o, e, q, r, n⟩
  · rw [Rep] at h; exact h
  · exact r.elim
theorem Con.cell {i : Nat} (h : Con K mg W H (.cell i) x) : ∃ a, W.ads[i]? = some a ∧ x = .ref a := by
  rcases h with h | ⟨a, o, e, q, r, n⟩
  · rw [Rep] at h; exact h
  · exact r.elim
theorem Con.tup {ds : List D} (wr : WR K mg w H W) (h : Con K mg W H (.tup ds) x) : ∃ a vs, x = .ref a ∧ TpO H a vs ∧ Reps K mg W ds vs := by
  rcases h with h | ⟨a, o, e, q, r, n⟩
  · rw [Rep] at h
    obtain ⟨a, vs, e, q, r⟩ := h
    exact ⟨a, vs, e, q.le wr.sub, r⟩
  · exact r.elim
theorem Con.ftp {ds : List D} (wr : WR K mg w H W) (h : Con K mg W H (.ftp ds) x) : ∃ a vs, x = .ref a ∧ SqT K H a vs ∧ Reps K mg W ds vs := by
  rcases h with h | ⟨a, o, e, q, r, n⟩
  · rw [Rep] at h
    obtain ⟨a, vs, e, q, r⟩ := h
    exact ⟨a, vs, e, SqT.le wr.sub q, r⟩
  · exact r.elim
theorem Con.fls {ds : List D} (wr : WR K mg w H W) (h : Con K mg W H (.fls ds) x) : ∃ a vs, x = .ref a ∧ SqL K H a vs ∧ Reps K mg W ds vs := by
  rcases h with h | ⟨a, o, e, q, r, n⟩
  · rw [Rep] at h
    obtain ⟨a, vs, e, q, r⟩ := h
    exact ⟨a, vs, e, SqL.le wr.sub q, r⟩
  · exact r.elim
theorem Con.lst {ds : List D} (wr : WR K mg w H W) (h : Con K mg W H (.lst ds) x) : ∃ a vs, x = .ref a ∧ H a = some (.lst vs) ∧ Reps K mg W ds vs := by
  rcases h with h | ⟨a, o, e, q, r, n⟩
  · rw [Rep] at h
    obtain ⟨a, vs, e, q, r⟩ := h
    exact ⟨a, vs, e, wr.sub _ _ q, r⟩
  · cases o with
    | lst vs => exact ⟨a, vs, e, q, r⟩
    | _ => exact r.elim
theorem Con.dck {ds : List (D × D)} (wr : WR K mg w H W) (h : Con K mg W H (.dck ds) x) : ∃ a, x = .ref a ∧ ∃ kk : List (Key × V), Rd H a (.dK kk) ∧ RepK K mg W ds kk := by
  rcases h with h | ⟨a, o, e, q, r, n⟩
  · rw [Rep] at h
    obtain ⟨a, ob, e, kk, q, r⟩ := h
    exact ⟨a, e, kk, .inr ⟨ob, wr.sub _ _ q⟩, r⟩
  · cases o with
    | dK kk => exact ⟨a, e, kk, .inl q, r⟩
    | _ => exact r.elim
theorem Con.dct {ds : List (D × D)} (wr : WR K mg w H W) (h : Con K mg W H (.dct ds) x) : ∃ a, x = .ref a ∧ ∃ (b : Addr) (xs : XsR), Rd H a (.ext (phiR b xs)) ∧ KeysX H xs ∧ RepT K mg W ds (kvX xs) := by
  rcases h with h | ⟨a, o, e, q, r, n⟩
  · rw [Rep] at h
    obtain ⟨a, ob, e, b, xs, q, hk, hl, r⟩ := h
    exact ⟨a, e, b, xs, .inr ⟨ob, wr.sub _ _ q⟩, hk.le wr.sub, r⟩
  · cases o with
    | ext φ =>
      obtain ⟨b, xs, e0, hk, hl, r⟩ := r
      subst e0
      exact ⟨a, e, b, xs, .inl q, hk.le wr.sub, r⟩
    | _ => exact r.elim
end

/-! ### names, constants -/
def vF (i : Nat) : EX D := fun Γ w => match Γ[i]? with
  | some (.frz d) => .ok d w
  | _ => .stuck
def vP (i : Nat) : EX D := fun Γ w => match Γ[i]? with
  | some (.frz d) => .ok d w
  | some (.own d) => .ok d w
  | _ => .stuck
section
variable {X : Cx} {Wx : WX'} {e a b c : Expr} {ea eb ec : EX D} {pos : Pos}
theorem df_var {i : Nat} (hp : PE X e (tVar i)) : DF X Wx e (vF i) := ⟨pe_imp hp fun σ H Q ⟨H0, Γ, w, W, r, s, p⟩ => by
  unfold vF at p
  split at p
  · rename_i d q
    obtain ⟨v, e1, e2⟩ := s.frz i d q
    exact ⟨v, e1, p H W (Grow.refl W H) r v e2⟩
  · exact p.elim⟩
theorem dp_var {i : Nat} (hp : PE X e (tVar i)) : DP X Wx e (vP i) := ⟨pe_imp hp fun σ H Q ⟨H0, Γ, w, W, r, s, p⟩ => by
  unfold vP at p
  split at p
  · rename_i d q
    obtain ⟨v, e1, e2⟩ := s.frz i d q
    exact ⟨v, e1, p H W (Grow.refl W H) r v (.inl e2)⟩
  · rename_i d q
    obtain ⟨a, o, e1, e2, e3, e4, e5, e6⟩ := s.own i d q
    exact ⟨_, e1, p H W (Grow.refl W H) r _ (.inr ⟨a, o, rfl, e2, e3, e5⟩)⟩
  · exact p.elim⟩
theorem df_c {v : V} {d : D} (hp : PE X e (L2.tC v)) (hr : ∀ W, Rep X.K X.mg W d v) : DF X Wx e (ePure d) := ⟨pe_imp hp fun σ H Q ⟨H0, Γ, w, W, r, s, p⟩ => p H W (Grow.refl W H) r v (hr W)⟩
theorem df_int {i : Int} {j : Nat} : DF X Wx (.Constant (.int i) j pos) (ePure (.int i)) := df_c pe_int fun _ => by rw [Rep]
theorem df_bl {i : Bool} {j : Nat} : DF X Wx (.Constant (.bool i) j pos) (ePure (.bl i)) := df_c pe_bl fun _ => by rw [Rep]
theorem df_non {j : Nat} : DF X Wx (.Constant .none j pos) (ePure .non) := df_c pe_non fun _ => by rw [Rep]
theorem df_str {i : Str} {j : Nat} : DF X Wx (.Constant (.str i) j pos) (ePure (.str i)) := df_c pe_str fun _ => by rw [Rep]
theorem df_gint {x : Str} {i : Int} (hg : Gl X x) (hm : ∃ t, X.mg x = some (.int i t)) (hd : (x == ("__debug__" : Str)) = false := by decide) : DF X Wx (.Name x pos) (ePure (.int i)) := by
  obtain ⟨t, hm⟩ := hm
  exact df_c (v := .int i) (pe_glob hg hm ⟨t, rfl⟩ hd) fun _ => by rw [Rep]
theorem df_gstr {x : Str} {i : Str} (hg : Gl X x) (hm : ∃ t, X.mg x = some (.str i t)) (hd : (x == ("__debug__" : Str)) = false := by decide) : DF X Wx (.Name x pos) (ePure (.str i)) := by
  obtain ⟨t, hm⟩ := hm
  exact df_c (v := .str i) (pe_glob hg hm ⟨t, rfl⟩ hd) fun _ => by rw [Rep]
/-- a def as a value -/
theorem df_gdef {x : Str} {a : Addr} (hg : Gl X x) (hm : X.mg x = some (.ref a)) (hd : (x == ("__debug__" : Str)) = false := by decide) : DF X Wx (.Name x pos) (ePure (.glb x)) :=
  df_c (v := .ref a) (pe_glob hg hm rfl hd) fun _ => by rw [Rep]; exact ⟨_, hm, rfl⟩

/-! ### operators on data -/
/-- what an operator on values does to data -/
def DOp (X : Cx) (F2 : Value → Value → Sem Value) (h : D → D → Option D) : Prop := ∃ r : R2, OpR X F2 r ∧
  ∀ (w : Wd) (H : Hp) (W : Wst) (d1 d2 d : D) (x y : V) (Q : VK), WR X.K X.mg w H W → Con X.K X.mg W H d1 x → Con X.K X.mg W H d2 y → h d1 d2 = some d →
    (∀ v H' W', Grow W H W' H' → WR X.K X.mg w H' W' → Rep X.K X.mg W' d v → Q v H') → r x y H Q
/-- .. that makes a new thing -/
def DOpN (X : Cx) (F2 : Value → Value → Sem Value) (h : D → D → Option D) : Prop := ∃ r : R2, OpR X F2 r ∧
  ∀ (w : Wd) (H : Hp) (W : Wst) (d1 d2 d : D) (x y : V) (Q : VK), WR X.K X.mg w H W → Con X.K X.mg W H d1 x → Con X.K X.mg W H d2 y → h d1 d2 = some d →
    (∀ p vs ds, d = .lst ds → H p = none → Reps X.K X.mg W ds vs → Q (.ref p) (upd H p (.lst vs))) → r x y H Q
theorem DOpN.f {F2 : Value → Value → Sem Value} {h : D → D → Option D} (k : DOpN X F2 h) : DOp X F2 h := by
  obtain ⟨r, ho, k⟩ := k
  refine ⟨r, ho, fun w H W d1 d2 d x y Q wr c1 c2 e q => k w H W d1 d2 d x y Q wr c1 c2 e fun p vs ds ed hp ro => ?_⟩
  obtain ⟨f0, n0⟩ := wr.fresh hp wr.len
  subst ed
  exact q _ _ (W.put p (.lst vs)) ((Grow.lay hp).freeze f0 hp) ((wr.lay hp).freeze upd_same f0 n0) (RepO.rep (d := .lst ds) (o := .lst vs) { cls := .none, data := .fields #[] } ro f0)
theorem DOp.or {F2 : Value → Value → Sem Value} {h1 h2 : D → D → Option D} (k1 : DOp X F2 h1) (k2 : DOp X F2 h2) : DOp X F2 (fun a b => (h1 a b).or (h2 a b)) := by
  obtain ⟨r1, o1, k1⟩ := k1
  obtain ⟨r2, o2, k2⟩ := k2
  refine ⟨_, o1.or o2, fun w H W d1 d2 d x y Q wr c1 c2 e q => ?_⟩
  dsimp only at e
  cases z : h1 d1 d2 with
  | some d' =>
    rw [z] at e
    have e' : d' = d := by simpa using e
    subst e'
    exact .inl (k1 w H W d1 d2 d' x y Q wr c1 c2 z q)
  | none =>
    rw [z] at e
    exact .inr (k2 w H W d1 d2 d x y Q wr c1 c2 (by simpa using e) q)
theorem DOp.of {F2 : Value → Value → Sem Value} {h1 h2 : D → D → Option D} (k1 : DOp X F2 h1) (e : ∀ a b, h2 a b = h1 a b) : DOp X F2 h2 := by
  have : h2 = h1 := by funext a b; exact e a b
  rw [this]; exact k1
/-- ints in, under C, and flat data out -/
theorem dop_I {F2 : Value → Value → Sem Value} {C : Int → Int → Prop} {g : Int → Int → V} (ho : OpR X F2 (rI C g)) (c : Int → Int → Bool) (hc : ∀ i j, c i j = true → C i j) (gd : Int → Int → D) (hg : ∀ i j W, Rep X.K X.mg W (gd i j) (g i j)) :
    DOp X F2 (fun a b => match a, b with
      | .int i, .int j => if c i j then some (gd i j) else none
      | _, _ => none) := by
  refine ⟨_, ho, fun w H W d1 d2 d x y Q wr c1 c2 e q => ?_⟩
  dsimp only at e
  split at e
  · rename_i i j
    have e1 := c1.int
    have e2 := c2.int
    split at e
    · rename_i hh
      cases e
      exact ⟨i, j, e1, e2, hc _ _ hh, q _ _ _ (Grow.refl W H) wr (hg i j W)⟩
    · cases e
  · cases e
theorem dop_I0 {F2 : Value → Value → Sem Value} {g : Int → Int → V} (ho : OpR X F2 (rI0 g)) (gd : Int → Int → D) (hg : ∀ i j W, Rep X.K X.mg W (gd i j) (g i j)) :
    DOp X F2 (fun a b => match a, b with
      | .int i, .int j => some (gd i j)
      | _, _ => none) := by
  refine ⟨_, ho, fun w H W d1 d2 d x y Q wr c1 c2 e q => ?_⟩
  dsimp only at e
  split at e
  · rename_i i j
    have e1 := c1.int
    have e2 := c2.int
    cases e
    exact ⟨i, j, e1, e2, q _ _ _ (Grow.refl W H) wr (hg i j W)⟩
  · cases e
def eOp (h : D → D → Option D) (f g : EX D) : EX D := eBind f fun a => eBind g fun b => fun _ => M.ofOption (h a b)
theorem df_op2 {F2 : Value → Value → Sem Value} {hh : D → D → Option D} {r : R2} (k : ∀ (w : Wd) (H : Hp) (W : Wst) (d1 d2 d : D) (x y : V) (Q : VK), WR X.K X.mg w H W → Con X.K X.mg W H d1 x → Con X.K X.mg W H d2 y → hh d1 d2 = some d →
    (∀ v H' W', Grow W H W' H' → WR X.K X.mg w H' W' → Rep X.K X.mg W' d v → Q v H') → r x y H Q) (hp : PE X e (tOp r (tP X.K X.mg Wx ea) (tP X.K X.mg Wx eb))) : DF X Wx e (eOp hh ea eb) := ⟨pe_imp hp fun σ H Q ⟨H0, Γ, w, W, wr, s, p⟩ => by
  refine ⟨H0, Γ, w, W, wr, s, (Post.bind p).mono fun d1 w1 H1 W1 g1 r1 p1 v1 c1 => ?_⟩
  refine ⟨H0, Γ, w1, W1, r1, s.grow g1, (Post.bind p1).mono fun d2 w2 H2 W2 g2 r2 p2 v2 c2 => ?_⟩
  obtain ⟨d, z, p2⟩ := Post.opt (o := hh d1 d2) p2
  exact k w2 H2 W2 d1 d2 d v1 v2 Q r2 (c1.grow g2) c2 z fun v H' W' g' r' q => p2 H' W' g' r' v q⟩
theorem dn_op2 {hh : D → D → Option D} {r : R2} (k : ∀ (w : Wd) (H : Hp) (W : Wst) (d1 d2 d : D) (x y : V) (Q : VK), WR X.K X.mg w H W → Con X.K X.mg W H d1 x → Con X.K X.mg W H d2 y → hh d1 d2 = some d →
    (∀ p vs ds, d = .lst ds → H p = none → Reps X.K X.mg W ds vs → Q (.ref p) (upd H p (.lst vs))) → r x y H Q) (hp : PE X e (tOp r (tP X.K X.mg Wx ea) (tP X.K X.mg Wx eb))) : DN X Wx e (eOp hh ea eb) := ⟨pe_imp hp fun σ H Q ⟨H0, Γ, w, W, wr, s, p⟩ => by
  refine ⟨H0, Γ, w, W, wr, s, (Post.bind p).mono fun d1 w1 H1 W1 g1 r1 p1 v1 c1 => ?_⟩
  refine ⟨H0, Γ, w1, W1, r1, s.grow g1, (Post.bind p1).mono fun d2 w2 H2 W2 g2 r2 p2 v2 c2 => ?_⟩
  obtain ⟨d, z, p2⟩ := Post.opt (o := hh d1 d2) p2
  · refine k w2 H2 W2 d1 d2 d v1 v2 Q r2 (c1.grow g2) c2 z fun a vs ds ed hp ro => ?_
    subst ed
    obtain ⟨f0, n0⟩ := r2.fresh hp r2.len
    refine p2 _ W2 (Grow.lay hp) (r2.lay hp) a (.lst vs) upd_same ro f0 n0 ?_
    cases q : H a with
    | none => rfl
    | some u =>
      exfalso
      by_cases na : ∀ (n : Nat), W.ads[n]? ≠ some a
      · have z1 := g2.keep a u (g1.keep a u q na) (g1.nad q na)
        rw [hp] at z1; cases z1
      · have : ∃ n : Nat, W.ads[n]? = some a := Classical.byContradiction fun z => na fun n e => z ⟨n, e⟩
        obtain ⟨n, e⟩ := this
        have e2 := g2.le.a n a (g1.le.a n a e)
        exact n0 n e2⟩
theorem df_bin {op : Operator} {hh : D → D → Option D} (k : DOp X (binaryOp op) hh) (ha : DP X Wx a ea) (hb : DP X Wx b eb) : DF X Wx (.BinOp a op b pos) (eOp hh ea eb) := by
  obtain ⟨r, ho, k⟩ := k
  exact df_op2 (F2 := binaryOp op) k (pe_op ho ha.pe hb.pe)
theorem dn_bin {op : Operator} {hh : D → D → Option D} (k : DOpN X (binaryOp op) hh) (ha : DP X Wx a ea) (hb : DP X Wx b eb) : DN X Wx (.BinOp a op b pos) (eOp hh ea eb) := by
  obtain ⟨r, ho, k⟩ := k
  exact dn_op2 k (pe_op ho ha.pe hb.pe)
theorem df_cmp {op : CmpOp} {hh : D → D → Option D} (k : DOp X (compareOp op) hh) (ha : DP X Wx a ea) (hb : DP X Wx b eb) (hm : behindInMarks op b = false) : DF X Wx (.Compare a [op] [b] pos) (eOp hh ea eb) := by
  obtain ⟨r, ho, k⟩ := k
  exact df_op2 (F2 := compareOp op) k (pe_cmpR ho ha.pe hb.pe hm)
end
end DL

set_option Elab.async false
set_option linter.all false
set_option maxRecDepth 100000
set_option maxHeartbeats 4000000
namespace DL
open PySem PySem.Spec PyProof.Rows L2

mutual
def D.toPy : D → PyData
  | .non => .none
  | .bl b => .bool b
  | .int i => .int i
  | .str s => .str s
  | .tup ds => .tuple (toPys ds)
  | .lst ds => .list (toPys ds)
  | .fls ds => .list (toPys ds)
  | .ftp ds => .tuple (toPys ds)
  | .dck _ => .dict []
  | .dct _ => .dict []
  | .glb _ => .dict []
  | .cell _ => .dict []
def toPys : List D → List PyData
  | [] => []
  | d :: ds => d.toPy :: toPys ds
end
section
variable {K : PySem.W.Frag} {mg : Str → Option Value} {W : Wst} {H : Hp} {w : Wd}
mutual
theorem Rep.dp (wr : WR K mg w H W) : ∀ (d : D) (v : V), d.toPy.canLay0 = true → Rep K mg W d v → Dp K H v d.toPy
  | .non, v, c, h => by rw [Rep] at h; subst h; exact .non
  | .bl b, v, c, h => by rw [Rep] at h; subst h; exact .bl b
  | .int i, v, c, h => by rw [Rep] at h; subst h; exact .int i
  | .str s, v, c, h => by rw [Rep] at h; subst h; exact .str s
  | .tup ds, v, c, h => by
    rw [Rep] at h
    obtain ⟨a, vs, e, q, r⟩ := h
    subst e
    exact .tup ((q.le wr.sub).sq) (Reps.dp wr ds vs c r)
  | .ftp ds, v, c, h => by
    rw [Rep] at h
    obtain ⟨a, vs, e, q, r⟩ := h
    subst e
    exact .tup (SqT.le wr.sub q) (Reps.dp wr ds vs c r)
  | .lst ds, v, c, h => by
    rw [Rep] at h
    obtain ⟨a, vs, e, q, r⟩ := h
    subst e
    exact .lst (SqL.of (wr.sub _ _ q)) (Reps.dp wr ds vs c r)
  | .fls ds, v, c, h => by
    rw [Rep] at h
    obtain ⟨a, vs, e, q, r⟩ := h
    subst e
    exact .lst (SqL.le wr.sub q) (Reps.dp wr ds vs c r)
  | .dck _, v, c, h => by exact absurd c (by rw [D.toPy]; decide)
  | .dct _, v, c, h => by exact absurd c (by rw [D.toPy]; decide)
  | .glb _, v, c, h => by exact absurd c (by rw [D.toPy]; decide)
  | .cell _, v, c, h => by exact absurd c (by rw [D.toPy]; decide)
theorem Reps.dp (wr : WR K mg w H W) : ∀ (ds : List D) (vs : List V), PyData.canLayAll0 (toPys ds) = true → Reps K mg W ds vs → DpAll K H vs (toPys ds)
  | [], vs, c, h => by rw [Reps] at h; subst h; exact .nil
  | d :: ds, vs, c, h => by
    rw [Reps] at h
    obtain ⟨v, r, e, q, t⟩ := h
    subst e
    rw [toPys, PyData.canLayAll0, Bool.and_eq_true] at c
    exact .cons (Rep.dp wr d v c.1 q) (Reps.dp wr ds r c.2 t)
end
theorem Con.dp (wr : WR K mg w H W) {d : D} {v : V} (c : d.toPy.canLay0 = true) (h : Con K mg W H d v) : Dp K H v d.toPy := by
  rcases h with h | ⟨a, o, e, q, r, n⟩
  · exact Rep.dp wr d v c h
  · subst e
    cases d with
    | lst ds =>
      cases o with
      | lst vs => exact .lst (SqL.of q) (Reps.dp wr ds vs c r)
      | _ => exact r.elim
    | dck kvs => exact absurd c (by rw [D.toPy]; decide)
    | dct kvs => exact absurd c (by rw [D.toPy]; decide)
    | _ => exact r.elim
end

/-! ### arithmetic -/
def iAdd : D → D → Option D
  | .int i, .int j => some (.int (i + j))
  | _, _ => none
def tAdd : D → D → Option D
  | .tup xs, .tup ys => if xs.length + ys.length ≤ sizeLine then some (.tup (xs ++ ys)) else none
  | _, _ => none
def sAdd : D → D → Option D
  | .str x, .str y => if x.length + y.length ≤ sizeLine then some (.str (x ++ y)) else none
  | _, _ => none
def lAdd : D → D → Option D
  | .lst xs, .lst ys => if xs.length + ys.length ≤ sizeLine then some (.lst (xs ++ ys)) else none
  | _, _ => none
def dAdd : D → D → Option D
  | .int i, .int j => some (.int (i + j))
  | .tup xs, .tup ys => if xs.length + ys.length ≤ sizeLine then some (.tup (xs ++ ys)) else none
  | .str x, .str y => if x.length + y.length ≤ sizeLine then some (.str (x ++ y)) else none
  | .lst xs, .lst ys => if xs.length + ys.length ≤ sizeLine then some (.lst (xs ++ ys)) else none
  | _, _ => none
def dSub : D → D → Option D
  | .int i, .int j => some (.int (i - j))
  | _, _ => none
def cMul (i j : Int) : Bool := decide (-(2 ^ 64) < i ∧ i < 2 ^ 64) || (decide (-(2 ^ 64) < j ∧ j < 2 ^ 64) || decide (i.natAbs.log2 + j.natAbs.log2 < 1000000))
def iMul : D → D → Option D
  | .int i, .int j => if cMul i j then some (.int (i * j)) else none
  | _, _ => none
def tMul : D → D → Option D
  | .tup xs, .int k => if xs.length ≤ 1000 ∧ -1000 ≤ k ∧ k ≤ 1000 then some (.tup (List.replicate k.toNat xs).flatten) else none
  | _, _ => none
def lMul : D → D → Option D
  | .lst xs, .int k => if -(2 ^ 63) ≤ k ∧ k < 2 ^ 63 ∧ xs.length * k.toNat ≤ sizeLine then some (.lst (List.replicate k.toNat xs).flatten) else none
  | _, _ => none
def dMul : D → D → Option D
  | .int i, .int j => if cMul i j then some (.int (i * j)) else none
  | .tup xs, .int k => if xs.length ≤ 1000 ∧ -1000 ≤ k ∧ k ≤ 1000 then some (.tup (List.replicate k.toNat xs).flatten) else none
  | .lst xs, .int k => if -(2 ^ 63) ≤ k ∧ k < 2 ^ 63 ∧ xs.length * k.toNat ≤ sizeLine then some (.lst (List.replicate k.toNat xs).flatten) else none
  | _, _ => none
def dDiv : D → D → Option D
  | .int i, .int j => if decide (0 < j ∧ j.natAbs.log2 < 9000) then some (.int (i / j)) else none
  | _, _ => none
def dMod : D → D → Option D
  | .int i, .int j => if decide (0 < j) then some (.int (i % j)) else none
  | _, _ => none
def dPow : D → D → Option D
  | .int i, .int j => if decide (0 ≤ j ∧ j ≤ 1000000 ∧ i.natAbs < 2 ^ 64) then some (.int (i ^ j.toNat)) else none
  | _, _ => none
section
variable {X : Cx} {Wx : WX'}
theorem dop_iAdd : DOp X (binaryOp .Add) iAdd := (dop_I0 op_add (fun i j => .int (i + j)) fun _ _ _ => by rw [Rep]).of fun a b => by unfold iAdd; rfl
theorem dop_sAdd : DOp X (binaryOp .Add) sAdd := by
  refine ⟨_, op_add_str, fun w H W d1 d2 d x y Q wr c1 c2 e q => ?_⟩
  unfold sAdd at e
  split at e
  · rename_i i j
    have e1 := c1.str
    have e2 := c2.str
    split at e
    · rename_i hh
      cases e
      exact ⟨i, j, e1, e2, hh, q _ _ _ (Grow.refl W H) wr (by rw [Rep])⟩
    · cases e
  · cases e
theorem dopn_lAdd : DOpN X (binaryOp .Add) lAdd := by
  refine ⟨_, op_cat, fun w H W d1 d2 d x y Q wr c1 c2 e q => ?_⟩
  unfold lAdd at e
  split at e
  · rename_i xs ys
    obtain ⟨a, vs, e1, q1, r1⟩ := c1.lst wr
    obtain ⟨b, us, e2, q2, r2⟩ := c2.lst wr
    split at e
    · rename_i hh
      cases e
      refine ⟨a, b, vs, us, e1, e2, q1, q2, by rw [← r1.length, ← r2.length]; exact hh, fun p hp => q p _ _ rfl hp (r1.append r2)⟩
    · cases e
  · cases e
theorem dop_tAdd : DOp X (binaryOp .Add) tAdd := by
  refine ⟨_, op_catM, fun w H W d1 d2 d x y Q wr c1 c2 e q => ?_⟩
  unfold tAdd at e
  split at e
  · rename_i xs ys
    obtain ⟨a, vs, e1, q1, r1⟩ := c1.tup wr
    obtain ⟨b, us, e2, q2, r2⟩ := c2.tup wr
    split at e
    · rename_i hh
      cases e
      have l1 := r1.length
      have l2 := r2.length
      refine ⟨a, b, vs, us, e1, e2, q1.sq, q2.sq, by omega, fun h0 => ?_, fun h0 h1 => ?_, fun h0 h1 p ob hp hcl hdi => ?_⟩
      · have : xs = [] := by
          cases xs with
          | nil => rfl
          | cons _ _ => rw [h0] at l1; simp at l1
        subst this
        refine q _ _ _ (Grow.refl W H) wr ?_
        rcases c2 with c2 | ⟨_, _, _, _, z, _⟩
        · rw [e2] at c2; exact c2
        · exact z.elim
      · have : ys = [] := by
          cases ys with
          | nil => rfl
          | cons _ _ => rw [h1] at l2; simp at l2
        subst this
        rw [List.append_nil] at q
        refine q _ _ _ (Grow.refl W H) wr ?_
        rcases c1 with c1 | ⟨_, _, _, _, z, _⟩
        · rw [e1] at c1; exact c1
        · exact z.elim
      · obtain ⟨f0, n0⟩ := wr.fresh hp wr.len
        refine q _ _ (W.put p (.frz ob (.tup (vs ++ us)))) ((Grow.lay hp).freeze f0 hp) ((wr.lay hp).freeze upd_same f0 n0) ?_
        rw [Rep]
        exact ⟨p, _, rfl, ⟨ob, upd_same, hcl, hdi⟩, Reps.le (Wle.put f0) _ _ (r1.append r2)⟩
    · cases e
  · cases e
theorem dop_add : DOp X (binaryOp .Add) dAdd := (((dop_iAdd.or dop_tAdd).or dop_sAdd).or dopn_lAdd.f).of fun a b => by
  unfold dAdd iAdd tAdd sAdd lAdd
  cases a <;> cases b <;> simp
theorem dop_sub : DOp X (binaryOp .Sub) dSub := (dop_I0 op_sub (fun i j => .int (i - j)) fun _ _ _ => by rw [Rep]).of fun a b => by unfold dSub; rfl
theorem dop_iMul : DOp X (binaryOp .Mult) iMul := by
  have k1 := dop_I (X := X) (F2 := binaryOp .Mult) op_mul (fun i j => decide (-(2 ^ 64) < i ∧ i < 2 ^ 64) || decide (-(2 ^ 64) < j ∧ j < 2 ^ 64)) (fun i j h => by
    rw [Bool.or_eq_true] at h
    rcases h with h | h
    · exact .inl (of_decide_eq_true h)
    · exact .inr (of_decide_eq_true h)) (fun i j => .int (i * j)) fun _ _ _ => by rw [Rep]
  have k2 := dop_I (X := X) (F2 := binaryOp .Mult) op_mulW (fun i j => decide (i.natAbs.log2 + j.natAbs.log2 < 1000000)) (fun i j h => of_decide_eq_true (p := i.natAbs.log2 + j.natAbs.log2 < 1000000) h) (fun i j => .int (i * j)) fun _ _ _ => by rw [Rep]
  refine (k1.or k2).of fun a b => ?_
  unfold iMul cMul
  cases a <;> cases b <;> try rfl
  rename_i i j
  dsimp only
  cases decide (-(2 ^ 64) < i ∧ i < 2 ^ 64) <;> cases decide (-(2 ^ 64) < j ∧ j < 2 ^ 64) <;> simp
theorem dopn_lMul : DOpN X (binaryOp .Mult) lMul := by
  refine ⟨_, op_rep, fun w H W d1 d2 d x y Q wr c1 c2 e q => ?_⟩
  unfold lMul at e
  split at e
  · rename_i xs k
    obtain ⟨a, vs, e1, q1, r1⟩ := c1.lst wr
    have e2 := c2.int
    split at e
    · rename_i hh
      cases e
      exact ⟨a, k, vs, e1, e2, q1, hh.1, hh.2.1, by rw [← r1.length]; exact hh.2.2, fun p hp => q p _ _ rfl hp (r1.rep _)⟩
    · cases e
  · cases e
theorem dop_div : DOp X (binaryOp .FloorDiv) dDiv := (dop_I op_fdivW (fun i j => decide (0 < j ∧ j.natAbs.log2 < 9000)) (fun i j h => of_decide_eq_true (p := 0 < j ∧ j.natAbs.log2 < 9000) h) (fun i j => .int (i / j)) fun _ _ _ => by rw [Rep]).of fun a b => by unfold dDiv; rfl
theorem dop_mod : DOp X (binaryOp .Mod) dMod := (dop_I op_mod (fun i j => decide (0 < j)) (fun i j h => of_decide_eq_true h) (fun i j => .int (i % j)) fun _ _ _ => by rw [Rep]).of fun a b => by unfold dMod; rfl
theorem dop_pow : DOp X (binaryOp .Pow) dPow := (dop_I op_pow (fun i j => decide (0 ≤ j ∧ j ≤ 1000000 ∧ i.natAbs < 2 ^ 64)) (fun i j h => of_decide_eq_true (p := 0 ≤ j ∧ j ≤ 1000000 ∧ i.natAbs < 2 ^ 64) h) (fun i j => .int (i ^ j.toNat)) fun _ _ _ => by rw [Rep]).of fun a b => by unfold dPow; rfl
end

/-! ### comparisons -/
def dEqv (a b : D) : Option Bool := if SeqAt.shaped a.toPy && SeqAt.shaped b.toPy then some (PyData.eqv a.toPy b.toPy) else none
def dEq (a b : D) : Option D := (dEqv a b).map D.bl
def dNe (a b : D) : Option D := (dEqv a b).map fun c => D.bl (!c)
def dLt : D → D → Option D
  | .int i, .int j => some (.bl (decide (i < j)))
  | _, _ => none
def dLe : D → D → Option D
  | .int i, .int j => some (.bl (decide (i ≤ j)))
  | _, _ => none
def dGt : D → D → Option D
  | .int i, .int j => some (.bl (decide (j < i)))
  | _, _ => none
def dGe : D → D → Option D
  | .int i, .int j => some (.bl (decide (j ≤ i)))
  | _, _ => none
def isNon : D → Option Bool
  | .non => some true
  | .glb _ => none
  | _ => some false
/-- x is None, x is True .. -/
def dIsN (a b : D) : Option D := match b with
  | .non => (isNon a).map .bl
  | _ => none
def dIsB (a b : D) : Option D := match a, b with
  | .bl a, .bl b => some (.bl (decide (a = b)))
  | _, _ => none
def dIs (a b : D) : Option D := (dIsN a b).or (dIsB a b)
def bNot : D → D
  | .bl b => .bl (!b)
  | d => d
def dIsNot (a b : D) : Option D := (dIs a b).map bNot
section
variable {X : Cx} {Wx : WX'}
theorem dop_eq (hu : X.A.units + 64 < cLine) : DOp X (compareOp .Eq) dEq := by
  refine ⟨_, op_eqD hu, fun w H W d1 d2 d x y Q wr c1 c2 e q => ?_⟩
  unfold dEq dEqv at e
  split at e
  · rename_i hh
    rw [Bool.and_eq_true] at hh
    cases e
    exact ⟨_, _, c1.dp wr (SeqAt.canLay_of_shaped hh.1), c2.dp wr (SeqAt.canLay_of_shaped hh.2), hh.1, hh.2, q _ _ _ (Grow.refl W H) wr (by rw [Rep])⟩
  · cases e
theorem dop_ne (hu : X.A.units + 64 < cLine) : DOp X (compareOp .NotEq) dNe := by
  refine ⟨_, op_neD hu, fun w H W d1 d2 d x y Q wr c1 c2 e q => ?_⟩
  unfold dNe dEqv at e
  split at e
  · rename_i hh
    rw [Bool.and_eq_true] at hh
    cases e
    exact ⟨_, _, c1.dp wr (SeqAt.canLay_of_shaped hh.1), c2.dp wr (SeqAt.canLay_of_shaped hh.2), hh.1, hh.2, q _ _ _ (Grow.refl W H) wr (by rw [Rep])⟩
  · cases e
theorem dop_lt : DOp X (compareOp .Lt) dLt := (dop_I0 op_lt (fun i j => .bl (decide (i < j))) fun _ _ _ => by rw [Rep]).of fun a b => by unfold dLt; rfl
theorem dop_le : DOp X (compareOp .LtE) dLe := (dop_I0 op_le (fun i j => .bl (decide (i ≤ j))) fun _ _ _ => by rw [Rep]).of fun a b => by unfold dLe; rfl
theorem dop_gt : DOp X (compareOp .Gt) dGt := (dop_I0 op_gt (fun i j => .bl (decide (j < i))) fun _ _ _ => by rw [Rep]).of fun a b => by unfold dGt; rfl
theorem dop_ge : DOp X (compareOp .GtE) dGe := (dop_I0 op_ge (fun i j => .bl (decide (j ≤ i))) fun _ _ _ => by rw [Rep]).of fun a b => by unfold dGe; rfl
theorem Con.isNon {K : PySem.W.Frag} {mg : Str → Option Value} {W : Wst} {H : Hp} {w : Wd} (wr : WR K mg w H W) {d : D} {x : V} {c : Bool} (hm : isNon d = some c) (h : Con K mg W H d x) : decide (x = .non) = c := by
  cases d with
  | non => rw [h.non]; exact Option.some.inj hm
  | bl b => rw [h.bl]; exact Option.some.inj hm
  | int b => rw [h.int]; exact Option.some.inj hm
  | str b => rw [h.str]; exact Option.some.inj hm
  | tup b => obtain ⟨a, vs, e, _⟩ := h.tup wr; rw [e]; exact Option.some.inj hm
  | lst b => obtain ⟨a, vs, e, _⟩ := h.lst wr; rw [e]; exact Option.some.inj hm
  | fls b => obtain ⟨a, vs, e, _⟩ := h.fls wr; rw [e]; exact Option.some.inj hm
  | ftp b => obtain ⟨a, vs, e, _⟩ := h.ftp wr; rw [e]; exact Option.some.inj hm
  | dck b => obtain ⟨a, e, _⟩ := h.dck wr; rw [e]; exact Option.some.inj hm
  | dct b => obtain ⟨a, e, _⟩ := h.dct wr; rw [e]; exact Option.some.inj hm
  | glb i => cases hm
  | cell i => obtain ⟨a, _, e⟩ := h.cell; rw [e]; exact Option.some.inj hm
theorem dop_isN : DOp X (compareOp .Is) dIsN := by
  refine ⟨_, op_isN, fun w H W d1 d2 d x y Q wr c1 c2 e q => ?_⟩
  unfold dIsN at e
  split at e
  · have e2 := c2.non
    cases z : isNon d1 with
    | none => rw [z] at e; cases e
    | some c =>
      rw [z] at e
      cases e
      exact ⟨e2, q _ _ _ (Grow.refl W H) wr (by rw [c1.isNon wr z, Rep])⟩
  · cases e
theorem dop_isB : DOp X (compareOp .Is) dIsB := by
  refine ⟨_, op_isBl, fun w H W d1 d2 d x y Q wr c1 c2 e q => ?_⟩
  unfold dIsB at e
  split at e
  · cases e
    exact ⟨_, _, c1.bl, c2.bl, q _ _ _ (Grow.refl W H) wr (by rw [Rep])⟩
  · cases e
theorem dop_is : DOp X (compareOp .Is) dIs := dop_isN.or dop_isB
theorem dop_isNotN : DOp X (compareOp .IsNot) (fun a b => (dIsN a b).map bNot) := by
  refine ⟨_, op_notN, fun w H W d1 d2 d x y Q wr c1 c2 e q => ?_⟩
  unfold dIsN at e
  dsimp only at e
  split at e
  · have e2 := c2.non
    cases z : isNon d1 with
    | none => rw [z] at e; cases e
    | some c =>
      rw [z] at e
      cases e
      exact ⟨e2, q _ _ _ (Grow.refl W H) wr (by rw [c1.isNon wr z, bNot, Rep])⟩
  · cases e
theorem dop_isNotB : DOp X (compareOp .IsNot) (fun a b => (dIsB a b).map bNot) := by
  refine ⟨_, op_notBl, fun w H W d1 d2 d x y Q wr c1 c2 e q => ?_⟩
  unfold dIsB at e
  dsimp only at e
  split at e
  · cases e
    exact ⟨_, _, c1.bl, c2.bl, q _ _ _ (Grow.refl W H) wr (by rw [bNot, Rep])⟩
  · cases e
theorem dop_isNot : DOp X (compareOp .IsNot) dIsNot := (dop_isNotN.or dop_isNotB).of fun a b => by
  unfold dIsNot dIs
  cases dIsN a b <;> rfl
end
end DL

set_option Elab.async false
set_option linter.all false
set_option maxRecDepth 100000
set_option maxHeartbeats 4000000
namespace DL
open PySem PySem.Spec PyProof.Rows L2

/-! ### truth, tests -/
def dTru : D → Option Bool
  | .non => some false
  | .bl b => some b
  | .int i => some (i != 0)
  | .str y => if y.length ≤ sizeLine then some ((y.length : Int) != 0) else none
  | .tup ds => some (!ds.isEmpty)
  | .lst ds => some (!ds.isEmpty)
  | .fls ds => some (!ds.isEmpty)
  | .ftp ds => some (!ds.isEmpty)
  | _ => none
theorem isEmpty_reps {K : PySem.W.Frag} {mg : Str → Option Value} {W : Wst} {ds : List D} {vs : List V} (h : Reps K mg W ds vs) : (!ds.isEmpty) = !vs.isEmpty := by
  cases ds with
  | nil => rw [Reps] at h; rw [h]; rfl
  | cons d ds =>
    rw [Reps] at h
    obtain ⟨v, r, e, _⟩ := h
    rw [e]; rfl
theorem Con.tru {K : PySem.W.Frag} {mg : Str → Option Value} {W : Wst} {H : Hp} {w : Wd} (wr : WR K mg w H W) {d : D} {x : V} {c : Bool} (hm : dTru d = some c) (h : Con K mg W H d x) : TruV K x H c := by
  cases d with
  | non => rw [h.non]; exact (Option.some.inj hm).symm
  | bl b => rw [h.bl]; exact (Option.some.inj hm).symm
  | int b => rw [h.int]; exact (Option.some.inj hm).symm
  | str b =>
    rw [h.str]
    have hm : (if b.length ≤ sizeLine then some ((b.length : Int) != 0) else none) = some c := hm
    split at hm
    · rename_i z; exact ⟨z, (Option.some.inj hm).symm⟩
    · cases hm
  | ftp b => obtain ⟨a, vs, e, q, r⟩ := h.ftp wr; rw [e]; exact .inr (.inl ⟨vs, q, by rw [← isEmpty_reps r]; exact (Option.some.inj hm).symm⟩)
  | tup b => obtain ⟨a, vs, e, q, r⟩ := h.tup wr; rw [e]; exact .inr (.inl ⟨vs, q.sq, by rw [← isEmpty_reps r]; exact (Option.some.inj hm).symm⟩)
  | lst b => obtain ⟨a, vs, e, q, r⟩ := h.lst wr; rw [e]; exact .inl ⟨vs, SqL.of q, by rw [← isEmpty_reps r]; exact (Option.some.inj hm).symm⟩
  | fls b => obtain ⟨a, vs, e, q, r⟩ := h.fls wr; rw [e]; exact .inl ⟨vs, q, by rw [← isEmpty_reps r]; exact (Option.some.inj hm).symm⟩
  | dck b => cases hm
  | dct b => cases hm
  | glb i => cases hm
  | cell i => cases hm
def eTru (f : EX D) : EX Bool := eBind f fun d _ => M.ofOption (dTru d)
def toB : D → Option Bool
  | .bl b => some b
  | _ => none
def eBl (f : EX D) : EX Bool := eBind f fun d _ => M.ofOption (toB d)
def eIf {α : Type} (c : EX Bool) (f g : EX α) : EX α := eBind c fun b => if b = true then f else g
def eNotB (c : EX Bool) : EX Bool := eBind c fun b => ePure (!b)
def eAnd (c d : EX Bool) : EX Bool := eBind c fun b => if b = true then d else ePure false
def eOr (c d : EX Bool) : EX Bool := eBind c fun b => if b = true then ePure true else d
/-- a bool as data -/
def eD (c : EX Bool) : EX D := eBind c fun b => ePure (.bl b)
section
variable {X : Cx} {Wx : WX'} {e a b c : Expr} {ea eb ec : EX D} {ta tb tc : EX Bool} {pos : Pos} {rest : List Expr}
theorem dt_tru (h : DP X Wx e ea) (he : ∀ whole, isTrue e X.env whole = (do let v ← whole; standAt e.pos; holding [v] (truthy v)) := by intro _; rfl) : DT X Wx e (eTru ea) := ⟨pt_imp (pt_truth h.pe he) fun σ H Q ⟨H0, Γ, w, W, wr, s, p⟩ => by
  refine ⟨H0, Γ, w, W, wr, s, (Post.bind p).mono fun d w1 H1 W1 g1 r1 p1 v c1 => ?_⟩
  obtain ⟨k, z, p1⟩ := Post.opt (o := dTru d) p1
  exact ⟨k, c1.tru r1 z, p1 H1 W1 (Grow.refl _ _) r1⟩⟩
theorem dt_op2 {hh : D → D → Option D} {r : R2} (k : ∀ (w : Wd) (H : Hp) (W : Wst) (d1 d2 d : D) (x y : V) (Q : VK), WR X.K X.mg w H W → Con X.K X.mg W H d1 x → Con X.K X.mg W H d2 y → hh d1 d2 = some d →
    (∀ v H' W', Grow W H W' H' → WR X.K X.mg w H' W' → Rep X.K X.mg W' d v → Q v H') → r x y H Q) (hp : PT X e (tTest (tOp r (tP X.K X.mg Wx ea) (tP X.K X.mg Wx eb)))) : DT X Wx e (eBl (eOp hh ea eb)) := ⟨pt_imp hp fun σ H Q ⟨H0, Γ, w, W, wr, s, p⟩ => by
  have p := Post.bind p
  refine ⟨H0, Γ, w, W, wr, s, (Post.bind p).mono fun d1 w1 H1 W1 g1 r1 p1 v1 c1 => ?_⟩
  refine ⟨H0, Γ, w1, W1, r1, s.grow g1, (Post.bind p1).mono fun d2 w2 H2 W2 g2 r2 p2 v2 c2 => ?_⟩
  obtain ⟨d, z, p2⟩ := Post.opt (o := hh d1 d2) p2
  refine k w2 H2 W2 d1 d2 d v1 v2 _ r2 (c1.grow g2) c2 z fun v H' W' g' r' q => ?_
  have p3 := p2 H' W' g' r'
  obtain ⟨b, z3, p3⟩ := Post.opt (o := toB d) p3
  cases d with
  | bl b' =>
    cases z3
    rw [Rep] at q
    exact ⟨b, q, p3 H' W' (Grow.refl _ _) r'⟩
  | _ => cases z3⟩
theorem dt_cmp {op : CmpOp} {hh : D → D → Option D} (k : DOp X (compareOp op) hh) (ha : DP X Wx a ea) (hb : DP X Wx b eb) (hm : behindInMarks op b = false) : DT X Wx (.Compare a [op] [b] pos) (eBl (eOp hh ea eb)) := by
  obtain ⟨r, ho, k⟩ := k
  exact dt_op2 k (pt_cmpR ho ha.pe hb.pe hm)
theorem dt_not (h : DT X Wx e ta) : DT X Wx (.UnaryOp .Not e pos) (eNotB ta) := ⟨pt_imp (pt_not h.pt) fun σ H Q ⟨H0, Γ, w, W, wr, s, p⟩ => by
  exact ⟨H0, Γ, w, W, wr, s, (Post.bind p).mono fun d w1 H1 W1 g1 r1 p1 => p1 H1 W1 (Grow.refl _ _) r1⟩⟩
/-- a test as one of and, or -/
structure DW (X : Cx) (Wx : WX') (e : Expr) (f : EX Bool) : Prop where
  pw : PW X e (tB X.K X.mg Wx f)
theorem DW.t (h : DW X Wx e ta) : DT X Wx e ta := ⟨h.pw.pt⟩
theorem dw_and1 (h : DT X Wx a ta) : DW X Wx (.BoolOp .And [a] pos) ta := ⟨pw_and1 h.pt⟩
theorem dw_or1 (h : DT X Wx a ta) : DW X Wx (.BoolOp .Or [a] pos) ta := ⟨pw_or1 h.pt⟩
theorem dw_and (h : DT X Wx a ta) (h' : DW X Wx (.BoolOp .And (b :: rest) pos) tb) : DW X Wx (.BoolOp .And (a :: b :: rest) pos) (eAnd ta tb) := ⟨⟨fun wh pins st σ H Q I hw => (pw_and h.pt h'.pw).run wh pins st σ H Q I (by
  obtain ⟨H0, Γ, w, W, wr, s, p⟩ := hw
  refine ⟨H0, Γ, w, W, wr, s, (Post.bind p).mono fun d w1 H1 W1 g1 r1 p1 => ?_⟩
  cases d with
  | true => exact ⟨H0, Γ, w1, W1, r1, s.grow g1, p1⟩
  | false => exact p1 H1 W1 (Grow.refl _ _) r1)⟩⟩
theorem dw_or (h : DT X Wx a ta) (h' : DW X Wx (.BoolOp .Or (b :: rest) pos) tb) : DW X Wx (.BoolOp .Or (a :: b :: rest) pos) (eOr ta tb) := ⟨⟨fun wh pins st σ H Q I hw => (pw_or h.pt h'.pw).run wh pins st σ H Q I (by
  obtain ⟨H0, Γ, w, W, wr, s, p⟩ := hw
  refine ⟨H0, Γ, w, W, wr, s, (Post.bind p).mono fun d w1 H1 W1 g1 r1 p1 => ?_⟩
  cases d with
  | false => exact ⟨H0, Γ, w1, W1, r1, s.grow g1, p1⟩
  | true => exact p1 H1 W1 (Grow.refl _ _) r1)⟩⟩
/-! .. as values -/
/-- the value of a bool expression -/
structure DB (X : Cx) (Wx : WX') (e : Expr) (f : EX Bool) : Prop where
  df : DF X Wx e (eD f)
theorem db_of (h : DF X Wx e ea) : DB X Wx e (eBl ea) := ⟨⟨pe_imp h.pe fun σ H Q ⟨H0, Γ, w, W, wr, s, p⟩ => by
  have p := Post.bind p
  refine ⟨H0, Γ, w, W, wr, s, (Post.bind p).mono fun d w1 H1 W1 g1 r1 p1 v c1 => ?_⟩
  obtain ⟨b, z, p1⟩ := Post.opt (o := toB d) p1
  cases d with
  | bl b' =>
    cases z
    exact p1 H1 W1 (Grow.refl _ _) r1 H1 W1 (Grow.refl _ _) r1 v c1
  | _ => cases z⟩⟩
theorem DB.run (h : DB X Wx e ta) : PE X e (fun σ H Q => ∃ H0 Γ w W, WR X.K X.mg w H W ∧ SR X.K X.mg H0 Γ σ H W ∧ Post X.K X.mg (fun c o H => Wx c o σ H) W H (ta Γ w) fun b w' H' W' => Q (.bl b) H') := pe_imp h.df.pe fun σ H Q ⟨H0, Γ, w, W, wr, s, p⟩ => by
  refine ⟨H0, Γ, w, W, wr, s, ?_⟩
  cases z : ta Γ w with
  | ok b w' =>
    rw [z] at p
    have e : eD ta Γ w = .ok (.bl b) w' := by unfold eD eBind M.bind; rw [z]; rfl
    rw [e]
    exact fun H' W' g r v q => by rw [Rep] at q; subst q; exact p H' W' g r
  | exc x w' =>
    rw [z] at p
    have e : eD ta Γ w = .exc x w' := by unfold eD eBind M.bind; rw [z]
    rw [e]
    exact p
  | stuck => rw [z] at p; exact p.elim
theorem db_one {op : BoolOp} (h : DB X Wx a ta) : DB X Wx (.BoolOp op [a] pos) ta := ⟨⟨pe_one h.df.pe⟩⟩
theorem DB.mk' {e : Expr} {f : EX Bool} (h : PE X e (fun σ H Q => ∃ H0 Γ w W, WR X.K X.mg w H W ∧ SR X.K X.mg H0 Γ σ H W ∧ Post X.K X.mg (fun c o H => Wx c o σ H) W H (f Γ w) fun b w' H' W' => Q (.bl b) H')) : DB X Wx e f := ⟨⟨pe_imp h fun σ H Q ⟨H0, Γ, w, W, wr, s, p⟩ => ⟨H0, Γ, w, W, wr, s, (Post.bind p).mono fun b w1 H1 W1 g1 r1 p1 => p1 H1 W1 (Grow.refl _ _) r1 (.bl b) (by rw [Rep])⟩⟩⟩
theorem db_and (h : DB X Wx a ta) (h' : DB X Wx (.BoolOp .And (b :: rest) pos) tb) : DB X Wx (.BoolOp .And (a :: b :: rest) pos) (eAnd ta tb) := .mk' (pe_imp (pe_and h.run h'.run) fun σ H Q ⟨H0, Γ, w, W, wr, s, p⟩ => by
  refine ⟨H0, Γ, w, W, wr, s, (Post.bind p).mono fun d w1 H1 W1 g1 r1 p1 => ⟨d, rfl, ?_⟩⟩
  cases d with
  | true => exact ⟨H0, Γ, w1, W1, r1, s.grow g1, p1⟩
  | false => exact p1 H1 W1 (Grow.refl _ _) r1)
theorem db_or (h : DB X Wx a ta) (h' : DB X Wx (.BoolOp .Or (b :: rest) pos) tb) : DB X Wx (.BoolOp .Or (a :: b :: rest) pos) (eOr ta tb) := .mk' (pe_imp (pe_or h.run h'.run) fun σ H Q ⟨H0, Γ, w, W, wr, s, p⟩ => by
  refine ⟨H0, Γ, w, W, wr, s, (Post.bind p).mono fun d w1 H1 W1 g1 r1 p1 => ⟨d, rfl, ?_⟩⟩
  cases d with
  | false => exact ⟨H0, Γ, w1, W1, r1, s.grow g1, p1⟩
  | true => exact p1 H1 W1 (Grow.refl _ _) r1)
theorem db_not (h : DB X Wx a ta) : DB X Wx (.UnaryOp .Not a pos) (eNotB ta) := .mk' (pe_imp (pe_not h.run) fun σ H Q ⟨H0, Γ, w, W, wr, s, p⟩ => by
  exact ⟨H0, Γ, w, W, wr, s, (Post.bind p).mono fun d w1 H1 W1 g1 r1 p1 => ⟨d, rfl, p1 H1 W1 (Grow.refl _ _) r1⟩⟩)
/-! a op b op' c -/
def eChain (h1 h2 : D → D → Option D) (f g k : EX D) : EX Bool := eBind f fun x => eBind g fun y => eBind (fun _ => M.ofOption ((h1 x y).bind toB)) fun c => if c = true then eBind k fun z => fun _ => M.ofOption ((h2 y z).bind toB) else ePure false
theorem chain_of {h1 h2 : D → D → Option D} {r r' : R2} {σ : L2.St} {H : Hp} {Q : VK} {ea eb ec : EX D}
    (k1 : ∀ (w : Wd) (H : Hp) (W : Wst) (d1 d2 d : D) (x y : V) (Q : VK), WR X.K X.mg w H W → Con X.K X.mg W H d1 x → Con X.K X.mg W H d2 y → h1 d1 d2 = some d → (∀ v H' W', Grow W H W' H' → WR X.K X.mg w H' W' → Rep X.K X.mg W' d v → Q v H') → r x y H Q)
    (k2 : ∀ (w : Wd) (H : Hp) (W : Wst) (d1 d2 d : D) (x y : V) (Q : VK), WR X.K X.mg w H W → Con X.K X.mg W H d1 x → Con X.K X.mg W H d2 y → h2 d1 d2 = some d → (∀ v H' W', Grow W H W' H' → WR X.K X.mg w H' W' → Rep X.K X.mg W' d v → Q v H') → r' x y H Q)
    (hw : ∃ H0 Γ w W, WR X.K X.mg w H W ∧ SR X.K X.mg H0 Γ σ H W ∧ Post X.K X.mg (fun c o H => Wx c o σ H) W H (eChain h1 h2 ea eb ec Γ w) fun b w' H' W' => Q (.bl b) H') :
    tChain r r' (tP X.K X.mg Wx ea) (tP X.K X.mg Wx eb) (tP X.K X.mg Wx ec) σ H Q := by
  obtain ⟨H0, Γ, w, W, wr, s, p⟩ := hw
  refine ⟨H0, Γ, w, W, wr, s, (Post.bind p).mono fun d1 w1 H1 W1 g1 r1 p1 v1 c1 => ?_⟩
  refine ⟨H0, Γ, w1, W1, r1, s.grow g1, (Post.bind p1).mono fun d2 w2 H2 W2 g2 r2 p2 v2 c2 => ?_⟩
  obtain ⟨b, z, p3⟩ := Post.opt (o := (h1 d1 d2).bind toB) (Post.bind p2)
  cases q1 : h1 d1 d2 with
  | none => rw [q1] at z; cases z
  | some d =>
    rw [q1] at z
    cases d with
    | bl b' =>
      cases z
      refine k1 w2 H2 W2 d1 d2 _ v1 v2 _ r2 (c1.grow g2) c2 q1 fun v H3 W3 g3 r3 q => ?_
      rw [Rep] at q
      refine ⟨b, q, ?_⟩
      have p4 := p3 H3 W3 g3 r3
      cases b with
      | false => exact p4 H3 W3 (Grow.refl _ _) r3
      | true =>
        rw [if_pos rfl]
        refine ⟨H0, Γ, w2, W3, r3, (s.grow g1).grow (g2.trans g3), (Post.bind p4).mono fun d3 w4 H4 W4 g4 r4 p5 v3 c3 => ?_⟩
        obtain ⟨b, z, p6⟩ := Post.opt (o := (h2 d2 d3).bind toB) p5
        cases q2 : h2 d2 d3 with
        | none => rw [q2] at z; cases z
        | some d' =>
          rw [q2] at z
          cases d' with
          | bl b' =>
            cases z
            refine k2 w4 H4 W4 d2 d3 _ v2 v3 _ r4 (c2.grow (g3.trans g4)) c3 q2 fun v H5 W5 g5 r5 q => ?_
            rw [Rep] at q
            subst q
            exact p6 H5 W5 g5 r5
          | _ => cases z
    | _ => cases z
theorem db_chain {op op' : CmpOp} {h1 h2 : D → D → Option D} (k1 : DOp X (compareOp op) h1) (k2 : DOp X (compareOp op') h2) (ha : DP X Wx a ea) (hb : DP X Wx b eb) (hc : DP X Wx c ec) (hm : lastMarks [op, op'] [b, c] = false := by with_unfolding_all rfl) :
    DB X Wx (.Compare a [op, op'] [b, c] pos) (eChain h1 h2 ea eb ec) := by
  obtain ⟨r, ho, k1⟩ := k1
  obtain ⟨r', ho', k2⟩ := k2
  exact .mk' (pe_imp (pe_chain ho ho' ha.pe hb.pe hc.pe hm) fun σ H Q hw => chain_of k1 k2 hw)
theorem dt_chain {op op' : CmpOp} {h1 h2 : D → D → Option D} (k1 : DOp X (compareOp op) h1) (k2 : DOp X (compareOp op') h2) (ha : DP X Wx a ea) (hb : DP X Wx b eb) (hc : DP X Wx c ec) (hm : lastMarks [op, op'] [b, c] = false := by with_unfolding_all rfl) :
    DT X Wx (.Compare a [op, op'] [b, c] pos) (eChain h1 h2 ea eb ec) := by
  obtain ⟨r, ho, k1⟩ := k1
  obtain ⟨r', ho', k2⟩ := k2
  exact ⟨pt_imp (pt_chain ho ho' ha.pe hb.pe hc.pe hm) fun σ H Q ⟨H0, Γ, w, W, wr, s, p⟩ => chain_of k1 k2 ⟨H0, Γ, w, W, wr, s, p.mono fun b w' H' W' _ _ q => ⟨b, rfl, q⟩⟩⟩
/-! a if c else b -/
theorem df_if (hc : DT X Wx c tc) (ha : DF X Wx a ea) (hb : DF X Wx b eb) : DF X Wx (.IfExp c a b pos) (eIf tc ea eb) := ⟨pe_imp (pe_ifExp hc.pt ha.pe hb.pe) fun σ H Q ⟨H0, Γ, w, W, wr, s, p⟩ => by
  refine ⟨H0, Γ, w, W, wr, s, (Post.bind p).mono fun d w1 H1 W1 g1 r1 p1 => ?_⟩
  cases d with
  | true => exact ⟨H0, Γ, w1, W1, r1, s.grow g1, p1⟩
  | false => exact ⟨H0, Γ, w1, W1, r1, s.grow g1, p1⟩⟩
theorem dp_if (hc : DT X Wx c tc) (ha : DP X Wx a ea) (hb : DP X Wx b eb) : DP X Wx (.IfExp c a b pos) (eIf tc ea eb) := ⟨pe_imp (pe_ifExp hc.pt ha.pe hb.pe) fun σ H Q ⟨H0, Γ, w, W, wr, s, p⟩ => by
  refine ⟨H0, Γ, w, W, wr, s, (Post.bind p).mono fun d w1 H1 W1 g1 r1 p1 => ?_⟩
  cases d with
  | true => exact ⟨H0, Γ, w1, W1, r1, s.grow g1, p1⟩
  | false => exact ⟨H0, Γ, w1, W1, r1, s.grow g1, p1⟩⟩
end

/-! ### arguments, displays -/
def eNil {α : Type} : EX (List α) := ePure []
def eCons {α : Type} (f : EX α) (g : EX (List α)) : EX (List α) := eBind f fun a => eBind g fun l => ePure (a :: l)
def eApp {α : Type} (f : EX (List α)) (g : EX (List α)) : EX (List α) := eBind f fun a => eBind g fun l => ePure (a ++ l)
def seqD : D → Option (List D)
  | .tup ds => some ds
  | .lst ds => some ds
  | .fls ds => some ds
  | .ftp ds => some ds
  | _ => none
def eSeq (f : EX D) : EX (List D) := eBind f fun d _ => M.ofOption (seqD d)
section
variable {X : Cx} {Wx : WX'} {e : Expr} {es : List Expr} {ea : EX D} {el : EX (List D)} {pos p : Pos}
theorem dfs_nil : DFs X Wx [] eNil := ⟨pa_imp pa_nil fun σ H Q ⟨H0, Γ, w, W, wr, s, p⟩ => p H W (Grow.refl _ _) wr [] Reps.nil⟩
theorem dfs_cons (h : DF X Wx e ea) (hr : DFs X Wx es el) (hs : starEach (e :: es) X.env = (false, eval e X.env) :: starEach es X.env := by rfl) : DFs X Wx (e :: es) (eCons ea el) := ⟨pa_imp (pa_cons h.pe hr.pa hs) fun σ H Q ⟨H0, Γ, w, W, wr, s, p⟩ => by
  refine ⟨H0, Γ, w, W, wr, s, (Post.bind p).mono fun d1 w1 H1 W1 g1 r1 p1 v1 c1 => ?_⟩
  refine ⟨H0, Γ, w1, W1, r1, s.grow g1, (Post.bind p1).mono fun d2 w2 H2 W2 g2 r2 p2 v2 c2 => ?_⟩
  exact p2 H2 W2 (Grow.refl _ _) r2 _ (Reps.cons (Rep.le g2.le _ _ c1) c2)⟩
theorem Con.seq {K : PySem.W.Frag} {mg : Str → Option Value} {W : Wst} {H : Hp} {w : Wd} (wr : WR K mg w H W) {d : D} {x : V} {ds : List D} (hm : seqD d = some ds) (h : Con K mg W H d x) : ∃ a vs, x = .ref a ∧ (SqL K H a vs ∨ SqT K H a vs) ∧ Reps K mg W ds vs := by
  cases d with
  | tup b => cases hm; obtain ⟨a, vs, e, q, r⟩ := h.tup wr; exact ⟨a, vs, e, .inr q.sq, r⟩
  | ftp b => cases hm; obtain ⟨a, vs, e, q, r⟩ := h.ftp wr; exact ⟨a, vs, e, .inr q, r⟩
  | lst b => cases hm; obtain ⟨a, vs, e, q, r⟩ := h.lst wr; exact ⟨a, vs, e, .inl (SqL.of q), r⟩
  | fls b => cases hm; obtain ⟨a, vs, e, q, r⟩ := h.fls wr; exact ⟨a, vs, e, .inl q, r⟩
  | _ => cases hm
theorem dfs_star (h : DP X Wx e ea) (hr : DFs X Wx es el) (hs : starEach (.Starred e p :: es) X.env = (true, eval e X.env) :: starEach es X.env := by rfl) : DFs X Wx (.Starred e p :: es) (eApp (eSeq ea) el) := ⟨pa_imp (StX.pa_star h.pe hr.pa hs) fun σ H Q ⟨H0, Γ, w, W, wr, s, p⟩ => by
  have p := Post.bind p
  refine ⟨H0, Γ, w, W, wr, s, (Post.bind p).mono fun d1 w1 H1 W1 g1 r1 p1 v1 c1 => ?_⟩
  obtain ⟨ds, z, p1⟩ := Post.opt (o := seqD d1) p1
  obtain ⟨a, vs, e1, q1, q2⟩ := c1.seq r1 z
  refine ⟨a, vs, e1, q1.symm, ?_⟩
  have p1 := p1 H1 W1 (Grow.refl _ _) r1
  refine ⟨H0, Γ, w1, W1, r1, s.grow g1, (Post.bind p1).mono fun d2 w2 H2 W2 g2 r2 p2 v2 c2 => ?_⟩
  exact p2 H2 W2 (Grow.refl _ _) r2 _ (Reps.append (Reps.le g2.le _ _ q2) c2)⟩
theorem dps_nil : DPs X Wx [] eNil := ⟨pa_imp pa_nil fun σ H Q ⟨H0, Γ, w, W, wr, s, p⟩ => p H W (Grow.refl _ _) wr [] .nil⟩
theorem conAll_grow {K : PySem.W.Frag} {mg : Str → Option Value} {W W' : Wst} {H H' : Hp} (g : Grow W H W' H') {ds : List D} {vs : List V} (h : Paired (Con K mg W H) ds vs) : Paired (Con K mg W' H') ds vs := L2.Paired.mapP h fun _ _ c => c.grow g
theorem dps_cons (h : DP X Wx e ea) (hr : DPs X Wx es el) (hs : starEach (e :: es) X.env = (false, eval e X.env) :: starEach es X.env := by rfl) : DPs X Wx (e :: es) (eCons ea el) := ⟨pa_imp (pa_cons h.pe hr.pa hs) fun σ H Q ⟨H0, Γ, w, W, wr, s, p⟩ => by
  refine ⟨H0, Γ, w, W, wr, s, (Post.bind p).mono fun d1 w1 H1 W1 g1 r1 p1 v1 c1 => ?_⟩
  refine ⟨H0, Γ, w1, W1, r1, s.grow g1, (Post.bind p1).mono fun d2 w2 H2 W2 g2 r2 p2 v2 c2 => ?_⟩
  exact p2 H2 W2 (Grow.refl _ _) r2 _ (.cons (c1.grow g2) c2)⟩
def eTup (f : EX (List D)) : EX D := eBind f fun ds _ => M.ofOption (if ds.length ≤ sizeLine then some (.tup ds) else none)
def eLst (f : EX (List D)) : EX D := eBind f fun ds _ => M.ofOption (if ds.length ≤ sizeLine then some (.lst ds) else none)
theorem newAt {K : PySem.W.Frag} {mg : Str → Option Value} {W W' : Wst} {H H' : Hp} {w : Wd} {p : Addr} (g : Grow W H W' H') (r : WR K mg w H' W') (h : H' p = none) : H p = none := by
  obtain ⟨f0, n0⟩ := r.fresh h r.len
  cases q : H p with
  | none => rfl
  | some u =>
    exfalso
    by_cases na : ∀ (n : Nat), W.ads[n]? ≠ some p
    · have z1 := g.keep p u q na
      rw [h] at z1; cases z1
    · have : ∃ n : Nat, W.ads[n]? = some p := Classical.byContradiction fun z => na fun n e => z ⟨n, e⟩
      obtain ⟨n, e⟩ := this
      exact n0 n (g.le.a n p e)
theorem df_tup {k : Nat} (h : DFs X Wx es el) : DF X Wx (.Tuple es k pos) (eTup el) := ⟨pe_imp (pe_tupM h.pa) fun σ H Q ⟨H0, Γ, w, W, wr, s, p⟩ => by
  refine ⟨H0, Γ, w, W, wr, s, (Post.bind p).mono fun ds w1 H1 W1 g1 r1 p1 vs c1 => ?_⟩
  obtain ⟨d, z, p1⟩ := Post.opt p1
  split at z
  · rename_i hl
    cases z
    refine ⟨by rw [← c1.length]; exact hl, fun p ob hp hcl hdi => ?_⟩
    obtain ⟨f0, n0⟩ := r1.fresh hp r1.len
    refine p1 _ (W1.put p (.frz ob (.tup vs))) ((Grow.lay hp).freeze f0 hp) ((r1.lay hp).freeze upd_same f0 n0) _ ?_
    rw [Rep]
    exact ⟨p, _, rfl, ⟨ob, upd_same, hcl, hdi⟩, Reps.le (Wle.put f0) _ _ c1⟩
  · cases z⟩
theorem dn_lst (h : DFs X Wx es el) : DN X Wx (.List es pos) (eLst el) := ⟨pe_imp (pe_lst h.pa) fun σ H Q ⟨H0, Γ, w, W, wr, s, p⟩ => by
  refine ⟨H0, Γ, w, W, wr, s, (Post.bind p).mono fun ds w1 H1 W1 g1 r1 p1 vs c1 => ?_⟩
  obtain ⟨d, z, p1⟩ := Post.opt p1
  split at z
  · rename_i hl
    cases z
    refine ⟨by rw [← c1.length]; exact hl, fun p hp => ?_⟩
    obtain ⟨f0, n0⟩ := r1.fresh hp r1.len
    exact p1 _ W1 (Grow.lay hp) (r1.lay hp) p _ upd_same c1 f0 n0 (newAt g1 r1 hp)
  · cases z⟩
end
end DL

set_option Elab.async false
set_option linter.all false
set_option maxRecDepth 100000
set_option maxHeartbeats 4000000
namespace DL
open PySem PySem.Spec PyProof.Rows L2

inductive SO where
  | nx (Γ : Ev) (w : Wd) | ret (d : D) (w : Wd) | brk (Γ : Ev) (w : Wd) | cnt (Γ : Ev) (w : Wd) | exc (e : Exc) (w : Wd) | stuck
abbrev SX := Ev → Wd → SO
def SO.seq (s : SO) (g : SX) : SO := match s with
  | .nx Γ w => g Γ w
  | .ret d w => .ret d w
  | .brk Γ w => .brk Γ w
  | .cnt Γ w => .cnt Γ w
  | .exc e w => .exc e w
  | .stuck => .stuck
/-- behind a loop's body -/
def SO.turn (s : SO) (g : SX) : SO := match s with
  | .nx Γ w => g Γ w
  | .cnt Γ w => g Γ w
  | .brk Γ w => .nx Γ w
  | .ret d w => .ret d w
  | .exc e w => .exc e w
  | .stuck => .stuck
/-- an expression, then what follows -/
def R.on {α : Type} (r : R α) (k : α → Wd → SO) : SO := match r with
  | .ok a w => k a w
  | .exc e w => .exc e w
  | .stuck => .stuck
def SO.ofOpt (o : Option Ev) (w : Wd) : SO := match o with
  | some Γ => .nx Γ w
  | none => .stuck

section
variable {K : PySem.W.Frag} {mg : Str → Option Value} {Wx : WX'} {H0 : Hp} {W0 : Wst}
def PostS (K : PySem.W.Frag) (mg : Str → Option Value) (Wx : WX') (H0 : Hp) (W0 : Wst) (W : Wst) (so : SO) (D : Ends) : Prop := match so with
  | .nx Γ w => ∀ σ' H' W', Wle W W' → Grow W0 H0 W' H' → WR K mg w H' W' → SR K mg H0 Γ σ' H' W' → D.nx σ' H'
  | .brk Γ w => ∀ σ' H' W', Wle W W' → Grow W0 H0 W' H' → WR K mg w H' W' → SR K mg H0 Γ σ' H' W' → D.bk σ' H'
  | .cnt Γ w => ∀ σ' H' W', Wle W W' → Grow W0 H0 W' H' → WR K mg w H' W' → SR K mg H0 Γ σ' H' W' → D.ct σ' H'
  | .ret d w => ∀ v H' W', Wle W W' → Grow W0 H0 W' H' → WR K mg w H' W' → Rep K mg W' d v → D.rt v H'
  | .exc e w => ∀ cls o σ' H' W', Grow W0 H0 W' H' → WR K mg w H' W' → RepX K mg W' H' e cls o → Wx cls o σ' H'
  | .stuck => False
theorem PostS.later {W W1 : Wst} {so : SO} {D : Ends} (l : Wle W W1) (h : PostS K mg Wx H0 W0 W so D) : PostS K mg Wx H0 W0 W1 so D := by
  cases so with
  | nx Γ w => exact fun σ' H' W' l' g r s => h σ' H' W' (l.trans l') g r s
  | brk Γ w => exact fun σ' H' W' l' g r s => h σ' H' W' (l.trans l') g r s
  | cnt Γ w => exact fun σ' H' W' l' g r s => h σ' H' W' (l.trans l') g r s
  | ret Γ w => exact fun σ' H' W' l' g r s => h σ' H' W' (l.trans l') g r s
  | exc e w => exact h
  | stuck => exact h
def tS (K : PySem.W.Frag) (mg : Str → Option Value) (Wx : WX') (H0 : Hp) (W0 : Wst) (f : SX) : TS := fun D σ H => ∃ Γ w W, Grow W0 H0 W H ∧ WR K mg w H W ∧ SR K mg H0 Γ σ H W ∧ PostS K mg Wx H0 W0 W (f Γ w) D
/-- an expression at the head of a statement -/
theorem PostS.on {α : Type} {W : Wst} {H : Hp} {r : R α} {k : α → Wd → SO} {D : Ends} {P : α → Wd → Hp → Wst → Prop} {σ : L2.St} (g : Grow W0 H0 W H) (h : PostS K mg Wx H0 W0 W (r.on k) D)
    (f : ∀ a w' H' W', Grow W H W' H' → WR K mg w' H' W' → Grow W0 H0 W' H' → PostS K mg Wx H0 W0 W' (k a w') D → P a w' H' W') : Post K mg (fun c o H => Wx c o σ H) W H r P := by
  cases r with
  | ok a w => exact fun H' W' g' r' => f a w H' W' g' r' (g.trans g') (PostS.later g'.le h)
  | exc e w => exact fun cls o H' W' g' r' x => h cls o σ H' W' (g.trans g') r' x
  | stuck => exact h.elim

theorem SR.setF {Γ : Ev} {σ : L2.St} {H : Hp} {W : Wst} {i : Nat} {d : D} {v : V} (s : SR K mg H0 Γ σ H W) (r : Rep K mg W d v) : SR K mg H0 (Γ.set i (.frz d)) (σ.set i (some v)) H W where
  len := by simpa using s.len
  frz := fun j e q => by
    by_cases hj : i = j
    · subst hj
      by_cases hl : i < Γ.length
      · rw [List.getElem?_set_self hl] at q
        cases q
        exact ⟨v, by rw [List.getElem?_set_self (s.len ▸ hl)], r⟩
      · rw [List.getElem?_eq_none_iff.mpr (by simp; omega)] at q; cases q
    · rw [List.getElem?_set_ne hj] at q ⊢
      exact s.frz j e q
  own := fun j e q => by
    by_cases hj : i = j
    · subst hj
      by_cases hl : i < Γ.length
      · rw [List.getElem?_set_self hl] at q; cases q
      · rw [List.getElem?_eq_none_iff.mpr (by simp; omega)] at q; cases q
    · rw [List.getElem?_set_ne hj] at q ⊢
      exact s.own j e q
  inj := fun j k d' e a q1 q2 q3 q4 => by
    have ne : ∀ {j : Nat} {d' : D}, (Γ.set i (.frz d))[j]? = some (.own d') → i ≠ j := fun {j d'} q hj => by
      subst hj
      by_cases hl : i < Γ.length
      · rw [List.getElem?_set_self hl] at q; cases q
      · rw [List.getElem?_eq_none_iff.mpr (by simp; omega)] at q; cases q
    have n1 := ne q1
    have n2 := ne q2
    rw [List.getElem?_set_ne n1] at q1 q3
    rw [List.getElem?_set_ne n2] at q2 q4
    exact s.inj j k d' e a q1 q2 q3 q4
/-- nothing is known of the slot any more -/
theorem SR.drop {Γ : Ev} {σ : L2.St} {H : Hp} {W : Wst} {i : Nat} (s : SR K mg H0 Γ σ H W) : SR K mg H0 (Γ.set i .no) σ H W where
  len := by simpa using s.len
  frz := fun j e q => by
    by_cases hj : i = j
    · subst hj
      by_cases hl : i < Γ.length
      · rw [List.getElem?_set_self hl] at q; cases q
      · rw [List.getElem?_eq_none_iff.mpr (by simp; omega)] at q; cases q
    · rw [List.getElem?_set_ne hj] at q
      exact s.frz j e q
  own := fun j e q => by
    by_cases hj : i = j
    · subst hj
      by_cases hl : i < Γ.length
      · rw [List.getElem?_set_self hl] at q; cases q
      · rw [List.getElem?_eq_none_iff.mpr (by simp; omega)] at q; cases q
    · rw [List.getElem?_set_ne hj] at q
      exact s.own j e q
  inj := fun j k d' e a q1 q2 q3 q4 => by
    have ne : ∀ {j : Nat} {d' : D}, (Γ.set i .no)[j]? = some (.own d') → i ≠ j := fun {j d'} q hj => by
      subst hj
      by_cases hl : i < Γ.length
      · rw [List.getElem?_set_self hl] at q; cases q
      · rw [List.getElem?_eq_none_iff.mpr (by simp; omega)] at q; cases q
    have n1 := ne q1
    have n2 := ne q2
    rw [List.getElem?_set_ne n1] at q1
    rw [List.getElem?_set_ne n2] at q2
    exact s.inj j k d' e a q1 q2 q3 q4
theorem SR.drops {σ : L2.St} {H : Hp} {W : Wst} : ∀ (is : List Nat) {Γ : Ev}, SR K mg H0 Γ σ H W → SR K mg H0 (is.foldl (fun Γ i => Γ.set i .no) Γ) σ H W
  | [], _, s => s
  | i :: is, _, s => SR.drops is s.drop
/-- a slot's own thing, stored or changed -/
theorem SR.setO {Γ : Ev} {σ : L2.St} {H : Hp} {W : Wst} {i : Nat} {d : D} {a : Addr} {o : HO} (s : SR K mg H0 Γ σ H W) (h : H a = some o) (r : RepO K mg W d o) (f : W.F a = none) (n : ∀ (n : Nat), W.ads[n]? ≠ some a) (h0 : H0 a = none)
    (ne : ∀ (j : Nat) e, j ≠ i → Γ[j]? = some (.own e) → σ[j]? ≠ some (some (.ref a))) : SR K mg H0 (Γ.set i (.own d)) (σ.set i (some (.ref a))) H W where
  len := by simpa using s.len
  frz := fun j e q => by
    by_cases hj : i = j
    · subst hj
      by_cases hl : i < Γ.length
      · rw [List.getElem?_set_self hl] at q; cases q
      · rw [List.getElem?_eq_none_iff.mpr (by simp; omega)] at q; cases q
    · rw [List.getElem?_set_ne hj] at q ⊢
      exact s.frz j e q
  own := fun j e q => by
    by_cases hj : i = j
    · subst hj
      by_cases hl : i < Γ.length
      · rw [List.getElem?_set_self hl] at q; cases q
        exact ⟨a, o, by rw [List.getElem?_set_self (s.len ▸ hl)], h, r, f, n, h0⟩
      · rw [List.getElem?_eq_none_iff.mpr (by simp; omega)] at q; cases q
    · rw [List.getElem?_set_ne hj] at q ⊢
      exact s.own j e q
  inj := fun j k d' e b q1 q2 q3 q4 => by
    by_cases h1 : i = j
    · by_cases h2 : i = k
      · exact h1.symm.trans h2
      · exfalso
        subst h1
        by_cases hl : i < Γ.length
        · rw [List.getElem?_set_self (s.len ▸ hl)] at q3
          cases q3
          rw [List.getElem?_set_ne h2] at q2 q4
          exact ne k e (Ne.symm h2) q2 q4
        · rw [List.getElem?_eq_none_iff.mpr (by simp; omega)] at q1; cases q1
    · by_cases h2 : i = k
      · exfalso
        subst h2
        by_cases hl : i < Γ.length
        · rw [List.getElem?_set_self (s.len ▸ hl)] at q4
          cases q4
          rw [List.getElem?_set_ne h1] at q1 q3
          exact ne j d' (Ne.symm h1) q1 q3
        · rw [List.getElem?_eq_none_iff.mpr (by simp; omega)] at q2; cases q2
      · rw [List.getElem?_set_ne h1] at q1 q3
        rw [List.getElem?_set_ne h2] at q2 q4
        exact s.inj j k d' e b q1 q2 q3 q4
end

structure DS (X : Cx) (Wx : WX') (H0 : Hp) (W0 : Wst) (st : Stmt) (f : SX) : Prop where
  ps : PS X st (tS X.K X.mg Wx H0 W0 f)
structure DSs (X : Cx) (Wx : WX') (H0 : Hp) (W0 : Wst) (sts : List Stmt) (f : SX) : Prop where
  pss : PSs X sts (tS X.K X.mg Wx H0 W0 f)
theorem ps_imp {X : Cx} {st : Stmt} {t t' : TS} (h : PS X st t) (i : ∀ D σ H, t' D σ H → t D σ H) : PS X st t' := ⟨fun pins s σ H D I q => h.run pins s σ H D I (i D σ H q)⟩
theorem pss_imp {X : Cx} {st : List Stmt} {t t' : TS} (h : PSs X st t) (i : ∀ D σ H, t' D σ H → t D σ H) : PSs X st t' := ⟨fun pins s σ H D I q => h.run pins s σ H D I (i D σ H q)⟩

def sSeq (f g : SX) : SX := fun Γ w => (f Γ w).seq g
def sNil : SX := fun Γ w => .nx Γ w
def sSet (i : Nat) (f : EX D) : SX := fun Γ w => (f Γ w).on fun d w' => .nx (Γ.set i (.frz d)) w'
def sSetN (i : Nat) (f : EX D) : SX := fun Γ w => (f Γ w).on fun d w' => .nx (Γ.set i (.own d)) w'
def sRet (f : EX D) : SX := fun Γ w => (f Γ w).on fun d w' => .ret d w'
def sRetN : SX := fun _ w => .ret .non w
def sDrop (f : EX D) : SX := fun Γ w => (f Γ w).on fun _ w' => .nx Γ w'
def sIf (c : EX Bool) (f g : SX) : SX := fun Γ w => (c Γ w).on fun b w' => if b = true then f Γ w' else g Γ w'
def sStuck : SX := fun _ _ => .stuck
def sBrk : SX := fun Γ w => .brk Γ w
def sCnt : SX := fun Γ w => .cnt Γ w
def sWhile (c : EX Bool) (b : SX) : Nat → SX
  | 0 => fun _ _ => .stuck
  | n + 1 => fun Γ w => (c Γ w).on fun k w' => if k = true then (b Γ w').turn (sWhile c b n) else .nx Γ w'
/-- nothing is known of the slots any more -/
def sForget (is : List Nat) (f : SX) : SX := fun Γ w => f (is.foldl (fun Γ i => Γ.set i .no) Γ) w
/-- a slot's own thing is never changed again -/
def frzAt (i : Nat) (Γ : Ev) : Ev := match Γ[i]? with
  | some (.own d) => Γ.set i (.frz d)
  | _ => Γ
def sFreeze (i : Nat) (f : SX) : SX := fun Γ w => f (frzAt i Γ) w
section
variable {X : Cx} {Wx : WX'} {H0 : Hp} {W0 : Wst} {st : Stmt} {rest sts sts' : List Stmt} {e c : Expr} {f g : SX} {ea : EX D} {tc : EX Bool} {pos pos' : Pos}
theorem dss_nil : DSs X Wx H0 W0 [] sNil := ⟨pss_imp pss_nil fun D σ H ⟨Γ, w, W, gr, wr, s, p⟩ => p σ H W (Wle.refl W) gr wr s⟩
theorem dss_cons (h1 : DS X Wx H0 W0 st f) (h2 : DSs X Wx H0 W0 rest g) : DSs X Wx H0 W0 (st :: rest) (sSeq f g) := ⟨pss_imp (pss_cons h1.ps h2.pss) fun D σ H ⟨Γ, w, W, gr, wr, s, p⟩ => by
  refine ⟨Γ, w, W, gr, wr, s, ?_⟩
  unfold sSeq at p
  cases q : f Γ w with
  | nx Γ' w' => rw [q] at p; exact fun σ' H' W' l g' r' s' => ⟨Γ', w', W', g', r', s', PostS.later l p⟩
  | ret d w' => rw [q] at p; exact p
  | brk d w' => rw [q] at p; exact p
  | cnt d w' => rw [q] at p; exact p
  | exc d w' => rw [q] at p; exact p
  | stuck => rw [q] at p; exact p⟩
theorem dss_one (h1 : DS X Wx H0 W0 st f) : DSs X Wx H0 W0 [st] f := ⟨pss_one h1.ps⟩
theorem dss_forget (is : List Nat) (h : DSs X Wx H0 W0 sts f) : DSs X Wx H0 W0 sts (sForget is f) := ⟨pss_imp h.pss fun D σ H ⟨Γ, w, W, gr, wr, s, p⟩ => by
  exact ⟨_, w, W, gr, wr, SR.drops is s, p⟩⟩
theorem pss_lockd {t : TS} (h : PSs X sts t) : PSs X sts (fun D σ H => t D σ H ∨ ∃ a u, H a = some u ∧ Mut (some u) ∧ ∀ ob, t D σ (upd H a (.frz ob u))) := ⟨fun pins s σ H D I hw => by
  rcases hw with hw | ⟨a, u, e, mu, hw⟩
  · exact h.run pins s σ H D I hw
  · obtain ⟨ob, I2⟩ := I.lock e mu
    exact h.run pins s σ _ D I2 (hw ob)⟩
theorem upd_id {H : Hp} {a : Addr} {o : HO} (h : H a = some o) : upd H a o = H := by
  funext b
  unfold upd
  split
  · rename_i e; rw [e, h]
  · rfl
theorem dss_freeze (i : Nat) (h : DSs X Wx H0 W0 sts f) : DSs X Wx H0 W0 sts (sFreeze i f) := ⟨pss_imp (pss_lockd h.pss) fun D σ H ⟨Γ, w, W, gr, wr, s, p⟩ => by
  unfold sFreeze frzAt at p
  split at p
  · rename_i d q
    obtain ⟨a, o, e1, e2, e3, e4, e5, e6⟩ := s.own i d q
    have hl : i < Γ.length := (List.getElem?_eq_some_iff.mp q).1
    have go : ∀ ob : Obj, tS X.K X.mg Wx H0 W0 f D σ (upd H a (frzO ob o)) := fun ob => by
      have l : Wle W (W.put a (frzO ob o)) := Wle.put e4
      refine ⟨_, w, W.put a (frzO ob o), gr.freezeO e4 e6, wr.freezeO e4 e5, ?_, PostS.later l p⟩
      have hset : σ.set i (some (.ref a)) = σ := by
        refine List.ext_getElem? fun j => ?_
        by_cases hj : i = j
        · subst hj; rw [List.getElem?_set_self (s.len ▸ hl), e1]
        · rw [List.getElem?_set_ne hj]
      have s2 : SR X.K X.mg H0 (Γ.set i .no) σ H W := s.drop
      have s3 : SR X.K X.mg H0 (Γ.set i .no) σ (upd H a (frzO ob o)) (W.put a (frzO ob o)) := {
        len := s2.len
        frz := fun j d' z => by
          obtain ⟨v, z1, z2⟩ := s2.frz j d' z
          exact ⟨v, z1, Rep.le l d' v z2⟩
        own := fun j d' z => by
          obtain ⟨b, u, z1, z2, z3, z4, z5, z6⟩ := s2.own j d' z
          have hj : i ≠ j := fun hj => by
            subst hj
            rw [List.getElem?_set_self hl] at z; cases z
          rw [List.getElem?_set_ne hj] at z
          have nb : b ≠ a := fun hb => by
            subst hb
            exact hj (s.inj i j d d' b q z e1 z1)
          refine ⟨b, u, z1, by rw [upd_ne nb]; exact z2, z3.le l, ?_, z5, z6⟩
          show (upd W.F a (frzO ob o)) b = none
          rw [upd_ne nb]; exact z4
        inj := s2.inj }
      have s4 := s3.setF (i := i) (e3.rep ob e4)
      rw [hset, List.set_set] at s4
      exact s4
    cases o with
    | lst vs =>
      refine .inl ?_
      have := go { cls := .none, data := .fields #[] }
      rw [show frzO { cls := .none, data := .fields #[] } (HO.lst vs) = .lst vs from rfl, upd_id e2] at this
      exact this
    | _ => exact .inr ⟨a, _, e2, e3.mut, fun ob => go ob⟩
  · exact .inl ⟨Γ, w, W, gr, wr, s, p⟩⟩
theorem ds_never : DS X Wx H0 W0 st sStuck := ⟨ps_imp ps_never fun D σ H ⟨Γ, w, W, gr, wr, s, p⟩ => p.elim⟩
theorem ds_pass : DS X Wx H0 W0 (.Pass pos) sNil := ⟨ps_imp ps_pass fun D σ H ⟨Γ, w, W, gr, wr, s, p⟩ => p σ H W (Wle.refl W) gr wr s⟩
theorem ds_break : DS X Wx H0 W0 (.Break pos) sBrk := ⟨ps_imp ps_break fun D σ H ⟨Γ, w, W, gr, wr, s, p⟩ => p σ H W (Wle.refl W) gr wr s⟩
theorem ds_continue : DS X Wx H0 W0 (.Continue pos) sCnt := ⟨ps_imp ps_continue fun D σ H ⟨Γ, w, W, gr, wr, s, p⟩ => p σ H W (Wle.refl W) gr wr s⟩
theorem ds_ret (h : DF X Wx e ea) : DS X Wx H0 W0 (.Return (some e) pos) (sRet ea) := ⟨ps_imp (ps_ret h.pe) fun D σ H ⟨Γ, w, W, gr, wr, s, p⟩ =>
  ⟨H0, Γ, w, W, wr, s, p.on gr fun d w' H' W' g' r' gg q v c => q v H' W' (Wle.refl _) gg r' c⟩⟩
theorem ds_retN : DS X Wx H0 W0 (.Return none pos) sRetN := ⟨ps_imp ps_retN fun D σ H ⟨Γ, w, W, gr, wr, s, p⟩ => p .non H W (Wle.refl _) gr wr (by rw [Rep])⟩
theorem ds_drop (h : DP X Wx e ea) (hs : swapsWith e none pos.line X.env = pure false := by rfl) : DS X Wx H0 W0 (.Expr e pos) (sDrop ea) := ⟨ps_imp (ps_expr h.pe hs) fun D σ H ⟨Γ, w, W, gr, wr, s, p⟩ =>
  ⟨H0, Γ, w, W, wr, s, p.on gr fun d w' H' W' g' r' gg q v c => q σ H' W' (Wle.refl _) gg r' (s.grow g')⟩⟩
theorem ds_if (hc : DT X Wx c tc) (ha : DSs X Wx H0 W0 sts f) (hb : DSs X Wx H0 W0 sts' g) : DS X Wx H0 W0 (.If c sts sts' pos) (sIf tc f g) := ⟨ps_imp (ps_if hc.pt ha.pss hb.pss) fun D σ H ⟨Γ, w, W, gr, wr, s, p⟩ => by
  refine ⟨H0, Γ, w, W, wr, s, p.on gr fun d w' H' W' g' r' gg q => ?_⟩
  cases d with
  | true => exact ⟨Γ, w', W', gg, r', s.grow g', q⟩
  | false => exact ⟨Γ, w', W', gg, r', s.grow g', q⟩⟩
/-- name = value: hp is HandS's rule for the store -/
theorem ds_set {i : Nat} {te : TE} (hp : PS X st (tAsg te (gName i))) (hi : ∀ σ H Q, tF X.K X.mg Wx ea σ H Q → te σ H Q) : DS X Wx H0 W0 st (sSet i ea) := ⟨ps_imp hp fun D σ H ⟨Γ, w, W, gr, wr, s, p⟩ =>
  hi _ _ _ ⟨H0, Γ, w, W, wr, s, p.on gr fun d w' H' W' g' r' gg q v c => q _ H' W' (Wle.refl _) gg r' ((s.grow g').setF c)⟩⟩
theorem ds_setN {i : Nat} {te : TE} (hp : PS X st (tAsg te (gName i))) (hi : ∀ σ H Q, tN X.K X.mg Wx ea σ H Q → te σ H Q) : DS X Wx H0 W0 st (sSetN i ea) := ⟨ps_imp hp fun D σ H ⟨Γ, w, W, gr, wr, s, p⟩ => by
  refine hi _ _ _ ⟨H0, Γ, w, W, wr, s, p.on gr fun d w' H' W' g' r' gg q a o e1 e2 e3 e4 e5 => ?_⟩
  refine q _ H' W' (Wle.refl _) gg r' ((s.grow g').setO e1 e2 e3 e4 ?_ fun j e' hj z1 z2 => ?_)
  · cases z : H0 a with
    | none => rfl
    | some u =>
      exfalso
      by_cases na : ∀ (n : Nat), W0.ads[n]? ≠ some a
      · have := gr.keep a u z na
        rw [e5] at this; cases this
      · have : ∃ n : Nat, W0.ads[n]? = some a := Classical.byContradiction fun z => na fun n e => z ⟨n, e⟩
        obtain ⟨n, e⟩ := this
        exact e4 n (gg.le.a n a e)
  · obtain ⟨b, u, z3, z4, _⟩ := s.own j e' z1
    rw [z2] at z3
    cases z3
    rw [e5] at z4; cases z4⟩
theorem ds_while {n : Nat} (hpo : PassesOwn (model X.prog X.w) X.A X.env X.xe) (hc : DT X Wx c tc) (hb : DSs X Wx H0 W0 sts f) : DS X Wx H0 W0 (.While c sts [] pos) (sWhile tc f n) := ⟨ps_imp (ps_while hpo hc.pt hb.pss) fun D σ H ⟨Γ, w, W, gr, wr, s, p⟩ => by
  refine ⟨fun m σ H => ∃ Γ w W', Wle W W' ∧ Grow W0 H0 W' H ∧ WR X.K X.mg w H W' ∧ SR X.K X.mg H0 Γ σ H W' ∧ PostS X.K X.mg Wx H0 W0 W' (sWhile tc f m Γ w) D, ⟨n, Γ, w, W, Wle.refl _, gr, wr, s, p⟩, ?_⟩
  rintro m σ1 H1 ⟨Γ1, w1, W1, l1, g1, r1, s1, p1⟩
  cases m with
  | zero => exact p1.elim
  | succ m =>
    refine ⟨H0, Γ1, w1, W1, r1, s1, PostS.on g1 p1 fun d w' H' W' g' r' gg q => ?_⟩
    cases d with
    | false => exact q σ1 H' W' (Wle.refl _) gg r' (s1.grow g')
    | true =>
      rw [if_pos rfl] at q ⊢
      refine ⟨fun σ H => ∃ Γ w W', Wle W W' ∧ Grow W0 H0 W' H ∧ WR X.K X.mg w H W' ∧ SR X.K X.mg H0 Γ σ H W' ∧ PostS X.K X.mg Wx H0 W0 W' (sWhile tc f m Γ w) D, fun σ' H' h => ⟨m, Nat.lt_succ_self m, h⟩, ?_⟩
      refine ⟨Γ1, w', W', gg, r', s1.grow g', ?_⟩
      cases z : f Γ1 w' with
      | nx Γ2 w2 => rw [z] at q; exact fun σ2 H2 W2 l2 gr2 r2 s2 => ⟨Γ2, w2, W2, (l1.trans g'.le).trans l2, gr2, r2, s2, PostS.later l2 q⟩
      | cnt Γ2 w2 => rw [z] at q; exact fun σ2 H2 W2 l2 gr2 r2 s2 => ⟨Γ2, w2, W2, (l1.trans g'.le).trans l2, gr2, r2, s2, PostS.later l2 q⟩
      | brk Γ2 w2 => rw [z] at q; exact q
      | ret Γ2 w2 => rw [z] at q; exact q
      | exc Γ2 w2 => rw [z] at q; exact q
      | stuck => rw [z] at q; exact q⟩
end
end DL

set_option Elab.async false
set_option linter.all false
set_option maxRecDepth 100000
set_option maxHeartbeats 4000000
namespace DL
open PySem PySem.Spec PyProof.Rows L2

/-- a def keeps its promise, called with as many values as it has parameters, while no repr runs -/
def FnG (P : Program) (w : World) (K : PySem.W.Frag) (mg : Str → Option Value) (base : Heap) (k : Nat) (f : Addr) (sp : Sp) : Prop :=
  ∀ (A : Around) (outer : List Env) (s : Shared) (H : Hp) (us : List Value) (vs : List V) (Q : VK) (E : XK), A.guards = some [] → Room k A → Env0 P w K mg base A outer s H → Vals vs us → sp vs H Q E →
    codeAny (model P w) A (.call (.ref f) ⟨us, []⟩) (CR (L2.CX P w) outer P w H s Q E) s
theorem FnG.mono {P : Program} {w : World} {K : PySem.W.Frag} {mg : Str → Option Value} {base : Heap} {j k : Nat} {f : Addr} {sp : Sp} (F : FnG P w K mg base j f sp) (h : j ≤ k) : FnG P w K mg base k f sp :=
  fun A outer s H us vs Q E hg hr e0 r hs => F A outer s H us vs Q E hg (hr.mono h) e0 r hs
theorem FnG.imp {P : Program} {w : World} {K : PySem.W.Frag} {mg : Str → Option Value} {base : Heap} {k : Nat} {f : Addr} {sp sp' : Sp} (F : FnG P w K mg base k f sp) (h : ∀ vs H Q E, sp' vs H Q E → sp vs H Q E) : FnG P w K mg base k f sp' :=
  fun A outer s H us vs Q E hg hr e0 r hs => F A outer s H us vs Q E hg hr e0 r (h _ _ _ _ hs)

/-- what a def does to data -/
abbrev Fn := List D → M D
/-- the promise -/
def spD (K : PySem.W.Frag) (mg : Str → Option Value) (n : Nat) (g : Fn) : Sp := fun vs H Q E => vs.length = n ∧ ∃ ds w W, WR K mg w H W ∧ Reps K mg W ds vs ∧ Post K mg E W H (g ds w) fun d w' H' W' => ∀ v, Rep K mg W' d v → Q v H'

def startE (n : Nat) (ds : List D) : Ev := ds.map Sl.frz ++ List.replicate (n - ds.length) .no
/-- the end of a def's body -/
def SO.res : SO → R D
  | .nx _ w => .ok .non w
  | .ret d w => .ok d w
  | .exc e w => .exc e w
  | _ => .stuck
def defOf (n : Nat) (f : SX) : Fn := fun ds w => (f (startE n ds) w).res

section
variable {P : Program} {w : World} {K : PySem.W.Frag} {mg : Str → Option Value} {base : Heap} {k : Nat} {f : Addr} {x qual : Str} {st : Stmt} {fd : FuncData} {N ps : List Str}
theorem SR.start {H : Hp} {W : Wst} {ds : List D} {vs : List V} (n : Nat) (N : List Str) (hN : N.length = n) (r : Reps K mg W ds vs) (hl : vs.length ≤ n) : SR K mg H (startE n ds) (L2.start N vs) H W := by
  have el := r.length
  have none_own : ∀ (i : Nat) d, (startE n ds)[i]? ≠ some (.own d) := fun i d e => by
    unfold startE at e
    by_cases h : i < ds.length
    · rw [List.getElem?_append_left (by simpa using h), List.getElem?_map] at e
      cases q : ds[i]? with
      | none => rw [q] at e; cases e
      | some z => rw [q] at e; cases e
    · rw [List.getElem?_append_right (by simpa using h)] at e
      have := List.mem_of_getElem? e
      rw [List.mem_replicate] at this
      cases this.2
  refine ⟨?_, fun i d e => ?_, fun i d e => (none_own i d e).elim, fun i j d e a q => (none_own i d q).elim⟩
  · unfold startE L2.start
    simp only [List.length_append, List.length_map, List.length_replicate]
    omega
  · unfold startE at e
    by_cases h : i < ds.length
    · rw [List.getElem?_append_left (by simpa using h), List.getElem?_map] at e
      cases q : ds[i]? with
      | none => rw [q] at e; cases e
      | some z =>
        rw [q] at e
        have e' : z = d := by simpa using e
        subst e'
        obtain ⟨v, h1, h2⟩ := r.get q
        refine ⟨v, ?_, h2⟩
        unfold L2.start
        rw [List.getElem?_append_left (by rw [List.length_map, ← el]; exact h), List.getElem?_map, h1]
        rfl
    · rw [List.getElem?_append_right (by simpa using h)] at e
      have := List.mem_of_getElem? e
      rw [List.mem_replicate] at this
      cases this.2

/-- THE RULE for a def: its body as a term, for every entry -/
theorem fn_def {n m : Nat} {g : SX} (F : FunD K x qual (defArgs st) (defBody st) (defScope st) [] [] f fd) (S : FnScope N ps (defScope st)) (hN : N.length = n) (hm : ps.length = m) (hmn : m ≤ n)
    (hb : Binds K fd ps [])
    (hbody : ∀ (A : Around) (outer : List Env) (s : Shared) (H : Hp) (cdv : Value) (E : XK) (W : Wst), (cxOf (L2.CX P w) P w K mg base N qual (defScope st) f cdv A outer s H E).A.guards = some [] → Room k (cxOf (L2.CX P w) P w K mg base N qual (defScope st) f cdv A outer s H E).A →
      DSs (cxOf (L2.CX P w) P w K mg base N qual (defScope st) f cdv A outer s H E) (fun c d _ H => E c d H) H W (defBody st) g) :
    FnG P w K mg base (k + 1) f (spD K mg m (defOf n g)) := by
  intro A outer s H us vs Q E hg hr e0 rv hsp
  obtain ⟨hlen, ds, wd, W, wr, rp, post⟩ := hsp
  obtain ⟨oc, od, dV, kV, doc, pm, an, cdv, ct, osl, hfd, lk, hcd, _, _⟩ := F.ex
  have hl : vs.length = ps.length := hlen.trans hm.symm
  have old : ∀ b o, base.get? b = some o → s.heap.get? b = some o := fun b o q => (e0.bs b o q).1
  have KX : K.In s.heap := e0.mod.kin.keeps old
  have lim : s.heap.NoLimit := e0.mod.nolimit.keeps old
  have hb2 : BindsTo s fd ⟨us, []⟩ (ps.zip us) := by
    have z := hb s us KX (by rw [List.append_nil, ← rv.length]; exact hl)
    rw [List.append_nil] at z
    exact z
  subst hfd
  have kinds : ∀ y ∈ ps.zip us, (defScope st).names.lookup y.1 = some .local ∨ ((defScope st).names.lookup y.1 = some .cell ∧ ((cellsFrom (s.heap.objs.size + 1) (defScope st).names []).lookup y.1).isSome = true) := by
    rintro ⟨nm, u⟩ hy
    rcases S.par nm (List.of_mem_zip hy).1 with q | q
    · exact .inl q
    · exact .inr ⟨q, PySem.W.cellsFrom_some _ _ _ (.inl q)⟩
  refine codeAny_call_function hr.depth (KX _ _ lk) rfl S.co S.gen rfl (PySem.W.codeRec_of KX hcd) (hb2 _ _ _ _ (wpAny_newFunctionEnv_cells S.kind kinds fun env he s1 ic => ?_))
  cases he
  refine ⟨lim.keeps ic.toInCall.keep, codeAny_func ?_⟩
  have I := inv_start (CX := L2.CX P w) (E := E) S hr.hd e0 hl rv ic
  have sr : SR K mg H (startE n ds) (L2.start N vs) H W := SR.start n N hN rp (by omega)
  have body := (hbody A outer s H cdv E W hg (hr.deeper (envOfC qual (defScope st) s.heap.objs.size f cdv))).pss.run [] s1 (L2.start N vs) H { nx := fun _ H' => Q .non H', rt := Q } I ⟨startE n ds, wd, W, Grow.refl W H, wr, sr, ?_⟩
  · refine wpAny_mono body (fun fl s' hs => ?_) fun _ _ hs => hs
    cases fl with
    | ret u =>
      obtain ⟨v, _, H', J, r', q⟩ := hs
      exact ⟨v, H', J.os, J.bare, J.base, J.hok, r', q⟩
    | next =>
      obtain ⟨_, H', J, q⟩ := hs
      exact ⟨V.non, H', J.os, J.bare, J.base, J.hok, rfl, q⟩
    | brk => exact hs.choose_spec.choose_spec.2.elim
    | cont => exact hs.choose_spec.choose_spec.2.elim
  · unfold defOf at post
    cases z : g (startE n ds) wd with
    | nx Γ w' =>
      rw [z] at post
      exact fun σ' H' W' _ g' r' _ => post H' W' g' r' .non (by rw [Rep])
    | ret d w' =>
      rw [z] at post
      exact fun v H' W' _ g' r' c => post H' W' g' r' v c
    | exc e w' =>
      rw [z] at post
      exact fun cls o σ' H' W' g' r' c => post cls o H' W' g' r' c
    | brk Γ w' => rw [z] at post; exact post.elim
    | cnt Γ w' => rw [z] at post; exact post.elim
    | stuck => rw [z] at post; exact post.elim
end

/-! ### calls -/
section
variable {X : Cx} {Wx : WX'} {k n : Nat} {f : Addr} {x : Str} {e : Expr} {es : List Expr} {g : Fn} {el : EX (List D)} {p pos : Pos}
def LenIs (el : EX (List D)) (n : Nat) : Prop := ∀ Γ w ds w', el Γ w = .ok ds w' → ds.length = n
theorem len_nil : LenIs eNil 0 := fun Γ w ds w' h => by cases h; rfl
theorem len_cons {ea : EX D} (h : LenIs el n) : LenIs (eCons ea el) (n + 1) := fun Γ w ds w' q => by
  unfold eCons eBind M.bind at q
  split at q
  · dsimp only at q
    split at q
    · rename_i l w2 z
      cases q
      rw [List.length_cons, h _ _ _ _ z]
    · cases q
    · cases q
  · cases q
  · cases q
def eCall (g : Fn) (el : EX (List D)) : EX D := eBind el fun ds _ => g ds
theorem run_g {pins : List (Addr × Obj)} {σ : L2.St} {H : Hp} {s : Shared} {Q : VK} {us : List Value} {vs : List V} {sp : Sp} {E : XK} (F : FnG X.prog X.w X.K X.mg X.base k f sp) (hg : X.A.guards = some []) (hr : Room k X.A)
    (hx : PassesAt (L2.CX X.prog X.w) X σ E) (I : Inv X pins σ H s) (r : Vals vs us) (h : sp vs H Q E) : wpAny (model X.prog X.w) X.A (call (.ref f) us) (EP X pins σ Q) X.xe s := by
  refine wpAny_call (codeAny_mono (F X.A X.stack s H us vs Q E hg hr I.env0 r h) fun res s' hq => ?_)
  match res, hq with
  | .error e, hq => exact hx pins H s e s' I hq
  | .ok (.ret u), hq => exact I.after hq
/-- f(e, ..) -/
theorem df_call (F : FnG X.prog X.w X.K X.mg X.base k f (spD X.K X.mg n g)) (hgd : X.A.guards = some []) (hr : Room k X.A) (hg : Gl X x) (hm : X.mg x = some (.ref f)) (hk : PySem.W.keepIn X.K (.ref f) = true) (tk : Takes X Wx)
    (ha : DFs X Wx (e :: es) el) (hl : (e :: es).length = n) (hel : LenIs el n) (hdb : (x == ("__debug__" : Str)) = false := by decide) (he : starEach (e :: es) X.env = (false, eval e X.env) :: starEach es X.env := by rfl) (hpl : (backTo pos (starEach es X.env)).any (·.1) = false := by rfl) :
    DF X Wx (.Call (.Name x p) (e :: es) [] pos) (eCall g el) := ⟨pe_imp (t := fun σ H Q => tFs X.K X.mg Wx el σ H fun vs H1 => spD X.K X.mg n g vs H1 Q (WE Wx σ)) ⟨fun pins s σ H Q I h => by
  refine wpAny_Call_Name_kw (ld_glob I hg hm ?_ hdb)
  refine PySem.W.callWith_K (h₀ := X.base) I.ok.mod.kin hk (thn (ha.pa.run pos pins s σ H _ I h) fun us s1 ⟨vs, H1, I1, r, q⟩ => ⟨I1.kIn, ?_⟩) he hpl
  exact run_g F hgd hr (passAt tk σ) I1 r q⟩ fun σ H Q ⟨H0, Γ, w, W, wr, s, p⟩ => by
  refine ⟨H0, Γ, w, W, wr, s, ?_⟩
  have p := Post.bind p
  cases z : el Γ w with
  | ok ds w1 =>
    rw [z] at p
    intro H1 W1 g1 r1 vs rp
    exact ⟨by rw [← rp.length]; exact hel _ _ _ _ z, ds, w1, W1, r1, rp, p H1 W1 g1 r1⟩
  | exc e w1 => rw [z] at p; exact p
  | stuck => rw [z] at p; exact p⟩
end
end DL

set_option Elab.async false
set_option linter.all false
set_option maxRecDepth 100000
set_option maxHeartbeats 4000000
namespace DL
open PySem PySem.Spec PyProof.Rows L2

/-! ### targets -/
def ChgAt (is : List Nat) (σ σ' : L2.St) : Prop := σ'.length = σ.length ∧ ∀ (j : Nat), j ∉ is → σ'[j]? = σ[j]?
theorem ChgAt.refl (is : List Nat) (σ : L2.St) : ChgAt is σ σ := ⟨rfl, fun _ _ => rfl⟩
theorem ChgAt.trans {is js : List Nat} {σ σ' σ'' : L2.St} (a : ChgAt is σ σ') (b : ChgAt js σ' σ'') : ChgAt (is ++ js) σ σ'' :=
  ⟨b.1.trans a.1, fun j h => (b.2 j fun z => h (List.mem_append_right _ z)).trans (a.2 j fun z => h (List.mem_append_left _ z))⟩
abbrev FT := D → Ev → Option Ev
abbrev FTs := List D → Ev → Option Ev
def tG (K : PySem.W.Frag) (mg : Str → Option Value) (is : List Nat) (ft : FT) : TG := fun v σ H Q => ∃ H0 Γ w W d Γ', WR K mg w H W ∧ SR K mg H0 Γ σ H W ∧ Rep K mg W d v ∧ ft d Γ = some Γ' ∧
  ∀ σ', SR K mg H0 Γ' σ' H W → ChgAt is σ σ' → Q σ' H
def tGs (K : PySem.W.Frag) (mg : Str → Option Value) (is : List Nat) (ft : FTs) : TGs := fun vs σ H Q => ∃ H0 Γ w W ds Γ', WR K mg w H W ∧ SR K mg H0 Γ σ H W ∧ Reps K mg W ds vs ∧ ft ds Γ = some Γ' ∧
  ∀ σ', SR K mg H0 Γ' σ' H W → ChgAt is σ σ' → Q σ' H
structure DG (X : Cx) (tg : Expr) (is : List Nat) (ft : FT) : Prop where
  pg : PG X tg (tG X.K X.mg is ft)
structure DGs (X : Cx) (ts : List Expr) (is : List Nat) (ft : FTs) : Prop where
  pgs : PGs X ts (tGs X.K X.mg is ft)
def gtN (i : Nat) : FT := fun d Γ => some (Γ.set i (.frz d))
def gtNil : FTs := fun ds Γ => match ds with
  | [] => some Γ
  | _ => none
def gtCons (f : FT) (g : FTs) : FTs := fun ds Γ => match ds with
  | d :: r => (f d Γ).bind (g r)
  | _ => none
def gtTup (n : Nat) (g : FTs) : FT := fun d Γ => match d with
  | .tup ds => if ds.length = n then g ds Γ else none
  | .ftp ds => if ds.length = n then g ds Γ else none
  | _ => none
section
variable {X : Cx} {e : Expr} {es : List Expr} {is js : List Nat} {f : FT} {g : FTs} {pos : Pos}
theorem pg_imp {tg : Expr} {t t' : TG} (h : PG X tg t) (i : ∀ v σ H Q, t' v σ H Q → t v σ H Q) : PG X tg t' := ⟨fun pins s σ H v u Q I r q => h.run pins s σ H v u Q I r (i v σ H Q q)⟩
theorem pgs_imp {tg : List Expr} {t t' : TGs} (h : PGs X tg t) (i : ∀ v σ H Q, t' v σ H Q → t v σ H Q) : PGs X tg t' := ⟨fun pins s σ H v u Q I r q => h.run pins s σ H v u Q I r (i v σ H Q q)⟩
theorem dg_name {i : Nat} (h : PG X e (gName i)) : DG X e [i] (gtN i) := ⟨pg_imp h fun v σ H Q ⟨H0, Γ, w, W, d, Γ', wr, s, r, q, k⟩ => by
  cases q
  exact k _ (s.setF r) ⟨by simp, fun j hj => by rw [List.getElem?_set_ne (fun z => hj (by simp [z]))]⟩⟩
theorem dgs_nil : DGs X [] [] gtNil := ⟨pgs_imp pgs_nil fun vs σ H Q ⟨H0, Γ, w, W, ds, Γ', wr, s, r, q, k⟩ => by
  cases ds with
  | nil =>
    rw [Reps] at r
    cases q
    exact ⟨r, k σ s (ChgAt.refl _ _)⟩
  | cons _ _ => cases q⟩
theorem dgs_cons (h1 : DG X e is f) (h2 : DGs X es js g) (hs : (assignEach (e :: es) X.env).map (·.2) = assign e X.env :: (assignEach es X.env).map (·.2) := by rfl) : DGs X (e :: es) (is ++ js) (gtCons f g) := ⟨pgs_imp (pgs_cons h1.pg h2.pgs hs) fun vs σ H Q ⟨H0, Γ, w, W, ds, Γ', wr, s, r, q, k⟩ => by
  cases ds with
  | nil => cases q
  | cons d r' =>
    rw [Reps] at r
    obtain ⟨v, rr, e1, q1, q2⟩ := r
    subst e1
    have q : (f d Γ).bind (g r') = some Γ' := q
    cases z : f d Γ with
    | none => rw [z] at q; cases q
    | some Γ1 =>
      rw [z] at q
      exact ⟨v, rr, rfl, H0, Γ, w, W, d, Γ1, wr, s, q1, z, fun σ1 s1 c1 => ⟨H0, Γ1, w, W, r', Γ', wr, s1, q2, q, fun σ2 s2 c2 => k σ2 s2 (c1.trans c2)⟩⟩⟩
theorem dg_tup {n k : Nat} (hc : X.calm = true) (h : DGs X es is g) (hn : (assignEach es X.env).length = n := by rfl) (hst : (assignEach es X.env).findIdx? (·.1) = none := by rfl) : DG X (.Tuple es k pos) is (gtTup n g) := ⟨pg_imp (pg_tup hc h.pgs hn hst) fun v σ H Q ⟨H0, Γ, w, W, d, Γ', wr, s, r, q, kk⟩ => by
  cases d with
  | tup ds =>
    have q : (if ds.length = n then g ds Γ else none) = some Γ' := q
    split at q
    · rename_i hl
      rw [Rep] at r
      obtain ⟨a, vs, e1, e2, e3⟩ := r
      exact ⟨a, vs, e1, (e2.le wr.sub).sq, by rw [← e3.length]; exact hl, H0, Γ, w, W, ds, Γ', wr, s, e3, q, kk⟩
    · cases q
  | ftp ds =>
    have q : (if ds.length = n then g ds Γ else none) = some Γ' := q
    split at q
    · rename_i hl
      rw [Rep] at r
      obtain ⟨a, vs, e1, e2, e3⟩ := r
      exact ⟨a, vs, e1, SqT.le wr.sub e2, by rw [← e3.length]; exact hl, H0, Γ, w, W, ds, Γ', wr, s, e3, q, kk⟩
    · cases q
  | _ => cases q⟩
end

/-! ### what is walked -/
def ItAt (K : PySem.W.Frag) (mg : Str → Option Value) (J : It) (ds : List D) (i : Nat) (w : Wd) (H : Hp) (W : Wst) : Prop :=
  (∀ d, ds[i]? = some d → J.go i H ∧ ∀ x H3, J.yld i H x H3 → ∃ W3, Grow W H W3 H3 ∧ WR K mg w H3 W3 ∧ Rep K mg W3 d x) ∧ (ds.length ≤ i → J.stop i H)
/-- whatever the body does -/
def ItF (K : PySem.W.Frag) (mg : Str → Option Value) (J : It) (ds : List D) (W : Wst) : Prop := ∀ i w H W2, Wle W W2 → WR K mg w H W2 → ItAt K mg J ds i w H W2
/-- while nothing that stands is changed -/
def ItP (K : PySem.W.Frag) (mg : Str → Option Value) (J : It) (ds : List D) (W : Wst) (H : Hp) : Prop := ∀ i w H2 W2, Grow W H W2 H2 → WR K mg w H2 W2 → ItAt K mg J ds i w H2 W2
def tIF (K : PySem.W.Frag) (mg : Str → Option Value) (Wx : WX') (fi : EX (List D)) : TI := fun σ H R => ∃ H0 Γ w W, WR K mg w H W ∧ SR K mg H0 Γ σ H W ∧
  Post K mg (fun c o H => Wx c o σ H) W H (fi Γ w) fun ds w' H' W' => ∀ J, ItF K mg J ds W' → R J H'
def tIP (K : PySem.W.Frag) (mg : Str → Option Value) (Wx : WX') (fi : EX (List D)) : TI := fun σ H R => ∃ H0 Γ w W, WR K mg w H W ∧ SR K mg H0 Γ σ H W ∧
  Post K mg (fun c o H => Wx c o σ H) W H (fi Γ w) fun ds w' H' W' => ∀ J, ItP K mg J ds W' H' → R J H'
structure DIF (X : Cx) (Wx : WX') (tg iter : Expr) (fi : EX (List D)) : Prop where
  pi : PI X tg iter (tIF X.K X.mg Wx fi)
structure DIP (X : Cx) (Wx : WX') (tg iter : Expr) (fi : EX (List D)) : Prop where
  pi : PI X tg iter (tIP X.K X.mg Wx fi)
theorem pi_imp {X : Cx} {tg iter : Expr} {t t' : TI} (h : PI X tg iter t) (i : ∀ σ H Q, t' σ H Q → t σ H Q) : PI X tg iter t' := ⟨fun pins s σ H Q I q => h.run pins s σ H Q I (i σ H Q q)⟩
theorem DIF.p {X : Cx} {Wx : WX'} {tg iter : Expr} {fi : EX (List D)} (h : DIF X Wx tg iter fi) : DIP X Wx tg iter fi := ⟨pi_imp h.pi fun σ H R ⟨H0, Γ, w, W, wr, s, p⟩ => ⟨H0, Γ, w, W, wr, s, p.mono fun ds w' H' W' _ _ q J c => q J fun i w2 H2 W2 g r => c i w2 H2 W2 g.le r⟩⟩

/-! ### for -/
def sForL (tg : FT) (b : SX) : List D → SX
  | [] => fun Γ w => .nx Γ w
  | d :: ds => fun Γ w => match tg d Γ with
    | some Γ1 => (b Γ1 w).turn (sForL tg b ds)
    | none => .stuck
def sFor (fi : EX (List D)) (tg : FT) (b : SX) : SX := fun Γ w => (fi Γ w).on fun ds w' => sForL tg b ds Γ w'
section
variable {X : Cx} {Wx : WX'} {H0 : Hp} {W0 : Wst} {sts : List Stmt} {tg iter : Expr} {fi : EX (List D)} {b : SX} {ft : FT} {is : List Nat} {pos : Pos}
theorem ds_for (hpo : PassesOwn (model X.prog X.w) X.A X.env X.xe) (hc : X.calm = true) (hi : DIF X Wx tg iter fi) (hg : DG X tg is ft) (hb : DSs X Wx H0 W0 sts b) (hs : ∀ x, foldedSetIterable iter X.env x = pure x := by intro _; rfl) :
    DS X Wx H0 W0 (.For tg iter sts [] pos) (sFor fi ft b) := ⟨ps_imp (ps_for hpo hc hi.pi hg.pg hb.pss hs) fun D σ H ⟨Γ, w, W, gr, wr, s, p⟩ => by
  refine ⟨H0, Γ, w, W, wr, s, PostS.on gr p fun ds w1 H1 W1 g1 r1 gg1 p1 J hJ => ?_⟩
  let Pv : Nat → Nat → L2.St → Hp → Prop := fun i m σ H => m = ds.length - i ∧ i ≤ ds.length ∧ ∃ Γ w W', Wle W1 W' ∧ Grow W0 H0 W' H ∧ WR X.K X.mg w H W' ∧ SR X.K X.mg H0 Γ σ H W' ∧ PostS X.K X.mg Wx H0 W0 W' (sForL ft b (ds.drop i) Γ w) D
  refine ⟨Pv, ⟨ds.length, by simp, Nat.zero_le _, Γ, w1, W1, Wle.refl _, gg1, r1, s.grow g1, by rw [List.drop_zero]; exact p1⟩, ?_⟩
  rintro i m σ2 H2 ⟨rfl, hi', Γ2, w2, W2, l2, gg2, r2, s2, p2⟩
  have hat := hJ i w2 H2 W2 l2 r2
  by_cases hlt : i < ds.length
  · right
    have e1 : ds[i]? = some ds[i] := List.getElem?_eq_getElem hlt
    obtain ⟨go, yl⟩ := hat.1 _ e1
    rw [List.drop_eq_getElem_cons hlt] at p2
    have p2 : PostS X.K X.mg Wx H0 W0 W2 (match ft ds[i] Γ2 with
      | some Γ1 => (b Γ1 w2).turn (sForL ft b (ds.drop (i + 1)))
      | none => .stuck) D := p2
    cases z : ft ds[i] Γ2 with
    | none => rw [z] at p2; exact p2.elim
    | some Γ3 =>
      rw [z] at p2
      dsimp only at p2
      refine ⟨go, fun σ' H' => Pv (i + 1) (ds.length - (i + 1)) σ' H', fun σ' H' h => ⟨_, by omega, h⟩, fun x H3 hy => ?_⟩
      obtain ⟨W3, g3, r3, c3⟩ := yl x H3 hy
      refine ⟨H0, Γ2, w2, W3, ds[i], Γ3, r3, s2.grow g3, c3, z, fun σ3 s3 _ => ?_⟩
      refine ⟨Γ3, w2, W3, gg2.trans g3, r3, s3, ?_⟩
      have l3 : Wle W1 W3 := l2.trans g3.le
      have p3 := PostS.later g3.le p2
      cases zz : b Γ3 w2 with
      | nx Γ4 w4 => rw [zz] at p3; exact fun σ4 H4 W4 l4 gr4 r4 s4 => ⟨rfl, hlt, Γ4, w4, W4, l3.trans l4, gr4, r4, s4, PostS.later l4 p3⟩
      | cnt Γ4 w4 => rw [zz] at p3; exact fun σ4 H4 W4 l4 gr4 r4 s4 => ⟨rfl, hlt, Γ4, w4, W4, l3.trans l4, gr4, r4, s4, PostS.later l4 p3⟩
      | brk Γ4 w4 => rw [zz] at p3; exact p3
      | ret Γ4 w4 => rw [zz] at p3; exact p3
      | exc Γ4 w4 => rw [zz] at p3; exact p3
      | stuck => rw [zz] at p3; exact p3
  · left
    have e : i = ds.length := by omega
    subst e
    rw [List.drop_length] at p2
    exact ⟨hat.2 (Nat.le_refl _), p2 σ2 H2 W2 (Wle.refl _) gg2 r2 s2⟩⟩
end

/-! ### list comprehensions -/
def M.noexc {α : Type} (m : M α) : M α := fun w => match m w with
  | .exc _ _ => .stuck
  | r => r
theorem Post.noexc {α : Type} {K : PySem.W.Frag} {mg : Str → Option Value} {Wx Wx' : Value → Option Addr → Hp → Prop} {W : Wst} {H : Hp} {w : Wd} {m : M α} {P : α → Wd → Hp → Wst → Prop} (h : Post K mg Wx W H (m.noexc w) P) : Post K mg Wx' W H (m w) P := by
  unfold M.noexc at h
  cases z : m w with
  | ok a w' => rw [z] at h; exact h
  | exc a w' => rw [z] at h; exact h.elim
  | stuck => rw [z] at h; exact h.elim
def wipeE (Γ : Ev) (vs : List Nat) : Ev := vs.foldr (fun i Γ => Γ.set i .no) Γ
def eCompL (tg : FT) (tt : EX Bool) (te : EX D) (Γ : Ev) : List D → M (List D)
  | [] => M.pure []
  | d :: ds => match tg d Γ with
    | some Γ1 => (M.noexc (tt Γ1)).bind fun b => if b = true then (M.noexc (te Γ1)).bind fun y => (eCompL tg tt te Γ ds).bind fun ys => M.pure (y :: ys) else eCompL tg tt te Γ ds
    | none => M.stuck
def eComp (fi : EX (List D)) (vs : List Nat) (tg : FT) (tt : EX Bool) (te : EX D) : EX D := fun Γ => (fi Γ).bind fun ds => if ds.length ≤ sizeLine then (eCompL tg tt te (wipeE Γ vs) ds).bind fun ys => M.pure (.lst ys) else M.stuck
theorem wipe_get (σ : L2.St) (j : Nat) : ∀ vs : List Nat, (wipe σ vs)[j]? = if j ∈ vs ∧ j < σ.length then some none else σ[j]?
  | [] => by simp [wipe]
  | v :: vs => by
    have ih := wipe_get σ j vs
    show ((wipe σ vs).set v none)[j]? = _
    by_cases hv : v = j
    · subst hv
      by_cases hl : v < σ.length
      · rw [List.getElem?_set_self (by rw [wipe_length]; exact hl), if_pos ⟨by simp, hl⟩]
      · rw [if_neg (fun z => hl z.2), List.getElem?_eq_none_iff.mpr (by rw [List.length_set, wipe_length]; omega), List.getElem?_eq_none_iff.mpr (by omega)]
    · rw [List.getElem?_set_ne hv, ih]
      have : (j ∈ v :: vs ∧ j < σ.length) ↔ (j ∈ vs ∧ j < σ.length) := by simp [Ne.symm hv]
      simp only [this]
theorem wipe_eq {σ σ2 : L2.St} {vs is : List Nat} (h : ChgAt is (wipe σ vs) σ2) (hs : ∀ i ∈ is, i ∈ vs) : wipe σ2 vs = wipe σ vs := by
  refine List.ext_getElem? fun j => ?_
  rw [wipe_get, wipe_get, h.1, wipe_length]
  by_cases hj : j ∈ vs ∧ j < σ.length
  · rw [if_pos hj, if_pos hj]
  · rw [if_neg hj, if_neg hj]
    by_cases hi : j ∈ is
    · have hl : ¬ j < σ.length := fun z => hj ⟨hs j hi, z⟩
      rw [List.getElem?_eq_none_iff.mpr (by rw [h.1, wipe_length]; omega), List.getElem?_eq_none_iff.mpr (by omega)]
    · rw [h.2 j hi, wipe_get, if_neg hj]
theorem SR.wipe {K : PySem.W.Frag} {mg : Str → Option Value} {H0 : Hp} {σ : L2.St} {H : Hp} {W : Wst} {Γ : Ev} (s : SR K mg H0 Γ σ H W) : ∀ vs : List Nat, SR K mg H0 (wipeE Γ vs) (L2.wipe σ vs) H W
  | [] => s
  | v :: vs => by
    have ih := SR.wipe s vs
    have d := ih.drop (i := v)
    have ne : ∀ {j : Nat} {sl : Sl}, ((wipeE Γ vs).set v .no)[j]? = some sl → sl ≠ .no → v ≠ j := fun {j sl} q hn z => by
      subst z
      by_cases hl : v < (wipeE Γ vs).length
      · rw [List.getElem?_set_self hl] at q; cases q; exact hn rfl
      · rw [List.getElem?_eq_none_iff.mpr (by simp; omega)] at q; cases q
    refine ⟨by show ((wipeE Γ vs).set v .no).length = ((L2.wipe σ vs).set v none).length; rw [List.length_set, List.length_set]; exact ih.len, fun i d' q => ?_, fun i d' q => ?_, fun i j d' e a q1 q2 q3 q4 => ?_⟩
    · have hv := ne q (by intro z; cases z)
      obtain ⟨u, h1, h2⟩ := d.frz i d' q
      exact ⟨u, by show ((L2.wipe σ vs).set v none)[i]? = _; rw [List.getElem?_set_ne hv]; exact h1, h2⟩
    · have hv := ne q (by intro z; cases z)
      obtain ⟨a, o, h1, h2⟩ := d.own i d' q
      exact ⟨a, o, by show ((L2.wipe σ vs).set v none)[i]? = _; rw [List.getElem?_set_ne hv]; exact h1, h2⟩
    · have hv := ne q1 (by intro z; cases z)
      have hv2 := ne q2 (by intro z; cases z)
      have q3 : ((L2.wipe σ vs).set v none)[i]? = _ := q3
      have q4 : ((L2.wipe σ vs).set v none)[j]? = _ := q4
      rw [List.getElem?_set_ne hv] at q3
      rw [List.getElem?_set_ne hv2] at q4
      exact d.inj i j d' e a q1 q2 q3 q4
/-- the tests of a clause -/
structure DTs (X : Cx) (Wx : WX') (ifs : List Expr) (f : EX Bool) : Prop where
  pts : PTs X ifs (tB X.K X.mg Wx f)
theorem pts_imp {X : Cx} {es : List Expr} {t t' : TT} (h : PTs X es t) (i : ∀ σ H Q, t' σ H Q → t σ H Q) : PTs X es t' := ⟨fun pins s σ H Q I q => h.run pins s σ H Q I (i σ H Q q)⟩
theorem dts_nil {X : Cx} {Wx : WX'} : DTs X Wx [] (ePure true) := ⟨pts_imp pts_nil fun σ H Q ⟨H0, Γ, w, W, wr, s, p⟩ => p H W (Grow.refl _ _) wr⟩
theorem dts_one {X : Cx} {Wx : WX'} {c : Expr} {tc : EX Bool} (h : DT X Wx c tc) : DTs X Wx [c] tc := ⟨pts_one h.pt⟩
abbrev Wno : WX' := fun _ _ _ _ => False
section
variable {X : Cx} {Wx : WX'} {elt tg iter : Expr} {ifs : List Expr} {scope : Scope} {own : List (Str × Nat)} {fi : EX (List D)} {ft : FT} {tt : EX Bool} {te : EX D} {is : List Nat} {pos : Pos}
theorem lc_run {σ : L2.St} {H : Hp} {Q : VK} {vs : List Nat} (hsub : ∀ i ∈ is, i ∈ vs) (hw : tN X.K X.mg Wx (eComp fi vs ft tt te) σ H Q) :
    tLc (tIP X.K X.mg Wx fi) (tG X.K X.mg is ft) (tB X.K X.mg Wno tt) (tF X.K X.mg Wno te) vs σ H Q := by
  obtain ⟨H0, Γ, w, W, wr, s, p⟩ := hw
  refine ⟨H0, Γ, w, W, wr, s, (Post.bind p).mono fun ds w1 H1 W1 g1 r1 p1 J hJ D hD => ?_⟩
  split at p1
  rotate_left
  · exact p1.elim
  rename_i hlen
  obtain ⟨f0, n0⟩ := r1.fresh hD r1.len
  have hDH : H D = none := newAt g1 r1 hD
  let PP : DL.D → Wd → Hp → Wst → Prop := fun d w' H' W' => ∀ a o, H' a = some o → RepO X.K X.mg W' d o → W'.F a = none → (∀ (n : Nat), W'.ads[n]? ≠ some a) → H a = none → Q (.ref a) H'
  let Pv : Nat → Nat → Hp → Prop := fun i m H' => m = ds.length - i ∧ i ≤ ds.length ∧ ∃ acc ys w' W', Grow W1 H1 W' H' ∧ WR X.K X.mg w' H' W' ∧ H' D = some (.lst acc) ∧ Reps X.K X.mg W' ys acc ∧ acc.length ≤ i ∧ W'.F D = none ∧ (∀ (n : Nat), W'.ads[n]? ≠ some D) ∧
    Post X.K X.mg (fun c o H => Wx c o σ H) W1 H1 (eCompL ft tt te (wipeE Γ vs) (ds.drop i) w') (fun zs w'' H'' W'' => PP (.lst (ys ++ zs)) w'' H'' W'')
  refine ⟨Pv, ⟨ds.length, by simp, Nat.zero_le _, [], [], w1, W1, Grow.lay hD, r1.lay hD, upd_same, Reps.nil, Nat.le_refl _, f0, n0, ?_⟩, ?_⟩
  · rw [List.drop_zero]
    exact (Post.bind p1).mono fun zs w' H' W' g' r' q => q H' W' (Grow.refl _ _) r'
  rintro i m H2 ⟨rfl, hi, acc, ys, w2, W2, g2, r2, eD, ra, hal, fD, nD, p2⟩
  have hat := hJ i w2 H2 W2 g2 r2
  by_cases hlt : i < ds.length
  · right
    have e1 : ds[i]? = some ds[i] := List.getElem?_eq_getElem hlt
    obtain ⟨go, yl⟩ := hat.1 _ e1
    refine ⟨go, fun H' => Pv (i + 1) (ds.length - (i + 1)) H', fun H' h => ⟨_, by omega, h⟩, fun x H3 hy => ?_⟩
    obtain ⟨W3, g3, r3, c3⟩ := yl x H3 hy
    rw [List.drop_eq_getElem_cons hlt] at p2
    unfold eCompL at p2
    have eD3 := g3.keep D _ eD nD
    have s3 := (((s.grow g1).grow g2).grow g3).wipe vs
    cases z : ft ds[i] (wipeE Γ vs) with
    | none => rw [z] at p2; exact p2.elim
    | some Γ3 =>
      rw [z] at p2
      dsimp only at p2
      refine ⟨H0, wipeE Γ vs, w2, W3, ds[i], Γ3, r3, s3, c3, z, fun σ3 s3' ch => ⟨wipe_eq ch hsub, ?_⟩⟩
      refine ⟨H0, Γ3, w2, W3, r3, s3', ?_⟩
      refine (Post.noexc (Post.later (g2.trans g3) (Post.bind' p2))).mono fun b w4 H4 W4 g4 r4 p5 => ?_
      have nD3 := g3.nad eD nD
      have fD3 := g3.nofz D _ eD trivial fD nD
      have eD4 := g4.keep D _ eD3 nD3
      have nD4 := g4.nad eD3 nD3
      have fD4 := g4.nofz D _ eD3 trivial fD3 nD3
      cases b with
      | false => exact ⟨rfl, hlt, acc, ys, w4, W4, (g2.trans g3).trans g4, r4, eD4, Reps.le (g3.le.trans g4.le) _ _ ra, Nat.le_succ_of_le hal, fD4, nD4, p5⟩
      | true =>
        refine ⟨H0, Γ3, w4, W4, r4, s3'.grow g4, ?_⟩
        refine (Post.noexc (Post.later ((g2.trans g3).trans g4) (Post.bind' p5))).mono fun y w5 H5 W5 g5 r5 p6 v c6 => ?_
        have eD5 := g5.keep D _ eD4 nD4
        have nD5 := g5.nad eD4 nD4
        have fD5 := g5.nofz D _ eD4 trivial fD4 nD4
        have gg := ((g2.trans g3).trans g4).trans g5
        refine ⟨acc, eD5, Nat.lt_of_le_of_lt hal (Nat.lt_of_lt_of_le hlt hlen), rfl, hlt, acc ++ [v], ys ++ [y], w5, W5, ?_, ?_, upd_same, ?_, ?_, fD5, nD5, ?_⟩
        · refine ⟨gg.le, fun a o e n => ?_, gg.nofz, gg.noad⟩
          rw [upd_ne (ne_of_none e hD)]
          exact gg.keep a o e n
        · refine ⟨fun a o e => ?_, r5.len, fun n a ds' e1 e2 => ?_, r5.nf, r5.nd⟩
          · by_cases ha : a = D
            · subst ha; rw [fD5] at e; cases e
            · rw [upd_ne ha]; exact r5.sub a o e
          · obtain ⟨us, q1, q2⟩ := r5.cell n a ds' e1 e2
            exact ⟨us, by rw [upd_ne (fun z => nD5 n (by rw [← z]; exact e1))]; exact q1, q2⟩
        · exact Reps.append (Reps.le ((g3.le.trans g4.le).trans g5.le) _ _ ra) (Reps.cons c6 Reps.nil)
        · rw [List.length_append]; simp only [List.length_cons, List.length_nil]; omega
        · refine (Post.bind' p6).mono fun zs w'' H'' W'' g'' r'' q => ?_
          rw [List.append_assoc]
          exact q H'' W'' g'' r''
  · left
    have e : i = ds.length := by omega
    subst e
    rw [List.drop_length] at p2
    refine ⟨hat.2 (Nat.le_refl _), ?_⟩
    exact p2 H2 W2 g2 r2 D (.lst acc) eD (by rw [List.append_nil]; exact ra) fD nD hDH
theorem dn_lc (hc : X.calm = true) (hN : X.N.Nodup) (hi : DIP X Wx tg iter fi) (ok : BlkOk X.N X.env.scope scope own) (hsub : ∀ i ∈ is, i ∈ own.map (·.2))
    (hg : ∀ (s : Shared) (H : Hp) (C : Addr) (cl : List (Str × Addr)) (fp : List Addr), DG (X.blk s H scope (compEnvC scope cl C X.env) fp) tg is ft) (ht : ∀ (s : Shared) (H : Hp) (C : Addr) (cl : List (Str × Addr)) (fp : List Addr), DTs (X.blk s H scope (compEnvC scope cl C X.env) fp) Wno ifs tt)
    (he : ∀ (s : Shared) (H : Hp) (C : Addr) (cl : List (Str × Addr)) (fp : List Addr), DF (X.blk s H scope (compEnvC scope cl C X.env) fp) Wno elt te) (hs : ∀ x, foldedSetIterable iter X.env x = pure x := by intro _; rfl) :
    DN X Wx (.ListComp elt [⟨tg, iter, ifs, 0⟩] scope pos) (eComp fi (own.map (·.2)) ft tt te) := ⟨pe_imp (pe_lc hc hN hi.pi ok (fun s H C cl fp => (hg s H C cl fp).pg) (fun s H C cl fp => (ht s H C cl fp).pts) (fun s H C cl fp => (he s H C cl fp).pe) hs) fun σ H Q hw => lc_run hsub hw⟩
end
end DL

set_option Elab.async false
set_option linter.all false
set_option maxRecDepth 100000
set_option maxHeartbeats 4000000

/-! enumerate of a tuple -/
namespace PySem
open Sem (wp)
theorem dl_enum_new {v : Value} {o : Obj} {H : Heap → Prop} (B : Begins v o H) :
    Meets (Builtin.«enumerate.__new__» ⟨[.type "enumerate", v], []⟩) (fun _ R s => H s.heap ∧
      R (.ok (.ret (.ref (s.heap.push o).objs.size))) { s with heap := (s.heap.push o).push { cls := .type "enumerate", data := .fields #[.none, .bool false, .ref s.heap.objs.size, rawInt 0, .none, .none] } }) :=
  .of_wp fun prog w A R s hh => by
    obtain ⟨hp, g, dr, tk, os⟩ := s
    obtain ⟨h1, h⟩ := hh
    have hsub := sub_enumerate
    have go : ∀ {A' : Around} {E : Value → Shared → Prop} {Q : Value → Shared → Prop}, Q (.ref hp.objs.size) ⟨hp.push o, g, dr, tk, os⟩ → wpAny (model prog w) A' (pyIter v) Q E ⟨hp, g, dr, tk, os⟩ :=
      fun q => B.iter prog w _ _ ⟨hp, g, dr, tk, os⟩ _ h1 q
    wp_walk using go
    refine wpAny_stack_any fun st => wpAny_pure ?_
    split
    · rename_i c _ _ _ _ _
      cases (c == Value.type "enumerate")
      · wp_walk using go
        exact ⟨_, rfl, h⟩
      · wp_walk using go
        exact ⟨_, rfl, h⟩
    · wp_walk using go
      exact ⟨_, rfl, h⟩
theorem dl_enum_tuple {prog : Program} {w : World} {A : Around} {E : Value → Shared → Prop} {s : Shared} {t : Addr} {items : Array Value} {Q : Value → Shared → Prop} (ht : s.heap.IsTuple t items)
    (h : ∀ h', IsEnum h' (s.heap.objs.size + 1) s.heap.objs.size 0 .none → h'.IsTupleIter s.heap.objs.size t 0 → h'.objs.size = s.heap.objs.size + 2 →
      (∀ b o, s.heap.get? b = some o → h'.get? b = some o) → Q (.ref (s.heap.objs.size + 1)) { s with heap := h' }) :
    wpAny (model prog w) A (call (.type "enumerate") [.ref t]) Q E s := by
  have B := begins_tuple t items
  refine callType_new F.called_enumerate (by decide) (F.typeCall_enumerate_1 _) (F.newCall_enumerate_1 _) (fun obj => F.args_object_init_2 obj _) F.entry_enumerate_new (dl_enum_new B) ⟨ht, ?_⟩
  have hz : (s.heap.push { cls := .type "tuple_iterator", data := .fields #[.ref t, .int 0 0] }).objs.size = s.heap.objs.size + 1 := Heap.size_push ..
  show _ ∧ _
  rw [hz]
  have he : IsEnum ((s.heap.push { cls := .type "tuple_iterator", data := .fields #[.ref t, .int 0 0] }).push { cls := .type "enumerate", data := .fields #[.none, .bool false, .ref s.heap.objs.size, rawInt 0, .none, .none] }) (s.heap.objs.size + 1) s.heap.objs.size 0 .none := by
    have q := Heap.get?_push_size (s.heap.push { cls := .type "tuple_iterator", data := .fields #[.ref t, .int 0 0] }) (o := { cls := .type "enumerate", data := .fields #[.none, .bool false, .ref s.heap.objs.size, rawInt 0, .none, .none] }) rfl
    rw [hz] at q; exact q
  exact ⟨⟨_, he, rfl⟩, h _ he ⟨_, Heap.get?_push_of_some _ (Heap.get?_push_size _ B.free), rfl, rfl⟩ (by rw [Heap.size_push, hz]) fun b o x => Heap.get?_push_of_some _ (Heap.get?_push_of_some _ x)⟩
theorem dl_enum_end {prog : Program} {w : World} {A : Around} {E : Value → Shared → Prop} {s : Shared} {e it t : Addr} {i : Nat} {items : Array Value} {old : Value} {Q : Option Value → Shared → Prop} (hh : A.handled = none)
    (he : IsEnum s.heap e it i old) (hit : s.heap.IsTupleIter it t i) (ht : s.heap.IsTuple t items) (hx : items[i]? = none)
    (hQ : ∀ h', Heap.ExtBut it s.heap h' → Q none { s with heap := h' }) : wpAny (model prog w) A (pyNext (.ref e)) Q E s := by
  have ty : s.TypeIs (.ref e) "enumerate" := ⟨_, he, rfl⟩
  unfold pyNext
  refine wpAny_bind (wpAny_attempt (wpAny_callSpecial?_slot (name := Str.ofString "__next__")
    ty F.slot_enumerate_next (wpAny_call_entry F.slot_enumerate_next ty F.entry_enumerate_next
      ?_ (F.args_enumerate_next_1 _))))
  show wpAny _ _ (field (.ref e) 2 >>= _) _ _ _
  refine wpAny_bind (wpAny_field he rfl (x := .ref it) rfl (wpAny_bind
    (wpAny_nextOf_tuple_end hh hit ht hx fun h' x eb hx' => ?_)))
  obtain ⟨ox, hox, hcx⟩ := hx'
  refine wpAny_bind (wpAny_isInstance (b := true)
    (T := "StopIteration") ⟨ox, hox, hcx⟩ isSubtype_stop (wpAny_pure (hQ _ eb)))
end PySem

namespace DL
open PySem PySem.Spec PyProof.Rows L2
def IteT (K : PySem.W.Frag) (a : Addr) : It :=
  ⟨fun i H => ∃ (xs : List V) (x : V), SqT K H a xs ∧ xs[i]? = some x, fun i H v H' => ∃ T x, v = .ref T ∧ H T = none ∧ H' = upd H T (.tup [.int (i : Nat), x]) ∧ ∀ xs, SqT K H a xs → xs[i]? = some x, fun i H => ∃ xs : List V, SqT K H a xs ∧ xs.length ≤ i⟩
theorem turn_enumT {P : Program} {w : World} {K : PySem.W.Frag} {elts : List Expr} {kk : Nat} {tpos : Pos} (a e it : Addr) :
    Turn P w K (.Tuple elts kk tpos) (IteT K a) [e, it] e (fun i h => (∃ old, IsEnum h e it ((i : Nat) : Int) old) ∧ h.IsTupleIter it a i ∧ e ≠ it ∧ a ≠ it ∧ e ≠ a) where
  mem := by simp
  obj := fun i h st b hb => by
    obtain ⟨⟨old, he⟩, ⟨o, ho, hc, hd⟩, _⟩ := st
    rcases (show b = e ∨ b = it by simpa using hb) with z | z
    · subst z; exact ⟨_, he, fun v q => nomatch q⟩
    · subst z; exact ⟨o, ho, fun v q => by rw [hd] at q; cases q⟩
  keep := fun i h h' st k => let ⟨⟨old, he⟩, hi, hne⟩ := st; ⟨⟨old, k e (by simp) _ he⟩, hi.at fun o q => k it (by simp) o q, hne⟩
  item := by
    intro X hP hw hK hc i pins s σ H E I hf st hg
    subst hP hw hK
    obtain ⟨⟨old, he⟩, hit, hne, hai, hea⟩ := st
    obtain ⟨xs, x, hq, hx⟩ := hg
    obtain ⟨its, rv, p, hz⟩ := I.tuple hq
    obtain ⟨u, hu, ru⟩ := rv.get hx
    have hel : e < s.heap.objs.size := Heap.lt_size he
    have hil : it < s.heap.objs.size := by obtain ⟨_, q, _⟩ := hit; exact Heap.lt_size q
    have tup : s.heap.IsTuple a its.toArray := p
    have D := Draws.tuple (prog := X.prog) (w := X.w) (A := X.A.in1) (I.ok.hd hc) it a hai its.toArray
    have hlt : i < its.toArray.size := by
      have := (List.getElem?_eq_some_iff.mp hu).1
      simpa using this
    refine wpAny_pyNext_enum_itemC D he ⟨hit, tup⟩ hlt hne (by simp [hne, hea]) fun y h' tk hy ho hst hT hsz hk => ?_
    have ey : y = u := by
      have : its.toArray[i]? = some u := by simpa using hu
      rw [this] at hy; exact (Option.some.inj hy).symm
    subst ey
    refine ⟨_, rfl, wpAny_letOwnedTupleGo_enum (s := { s with heap := h', toks := tk + 1 }) ho fun h'' he' sb => ?_⟩
    have hT2 := (sb.2 _ (Nat.ne_of_gt hel)).trans hT
    have new : ObjOk X.prog X.w (upd H s.heap.objs.size (.tup [.int (i : Nat), x])) h'' s.heap.objs.size (.tup [.int (i : Nat), x]) :=
      ⟨by show 2 ≤ sizeLine; decide, [.int i tk, y], .cons ⟨_, rfl⟩ (.cons ru .nil), ⟨_, hT2, rfl, _, rfl⟩⟩
    have I1 : Inv X pins σ (upd H s.heap.objs.size (.tup [.int (i : Nat), x])) { s with heap := h'', toks := tk + 1 } :=
      I.turnedNew (ch := [e, it]) (fun b ob hb q => by
        have n1 : b ≠ e := fun z => hb (by simp [z])
        have n2 : b ≠ it := fun z => hb (by simp [z])
        exact (sb.2 b n1).trans (hk b ob n1 n2 q)) hf (Nat.le_refl _) new
    refine ⟨.ref s.heap.objs.size, _, I1, rfl, ⟨_, x, rfl, I.hok.fresh (Nat.le_refl _), rfl, fun ys hy => by rw [I.tuple_inj hy hq]; exact hx⟩, ⟨⟨y, ?_⟩, hst.1.at fun o q => (sb.2 it (Ne.symm hne)).trans q, hne, hai, hea⟩, fun b hb => ?_⟩
    · have e1 : ((i + 1 : Nat) : Int) = (i : Int) + 1 := by omega
      rw [e1]; exact he'
    · have hb' : b < s.heap.objs.size := by
        rcases (show b = e ∨ b = it by simpa using hb) with z | z
        · rw [z]; exact hel
        · rw [z]; exact hil
      rw [upd_ne (Nat.ne_of_lt hb')]
      exact (hf b hb).1
  done := by
    intro X hP hw hK hc i pins s σ H E I hf st hg
    subst hP hw hK
    obtain ⟨⟨old, he⟩, hit, hne, hai, hea⟩ := st
    obtain ⟨xs, hq, hx⟩ := hg
    obtain ⟨its, rv, p, hz⟩ := I.tuple hq
    obtain ⟨f0, f1, f2, f3, f4, f5⟩ := hf it (by simp)
    have hl := rv.length
    have tup : s.heap.IsTuple a its.toArray := p
    have nn : its.toArray[i]? = none := by
      rw [Array.getElem?_eq_none_iff]
      simp only [List.size_toArray]; omega
    exact dl_enum_end (I.ok.hd hc) he hit tup nn fun h' eb => ⟨rfl, I.turned (t' := s.toks) (fun b o hb q => eb b o hb q) f0 f1 f3 f4 f5⟩
  self := fun A i s Q E st h => let ⟨⟨_, he⟩, _⟩ := st; wpAny_pyIter_enum he h
end DL

set_option Elab.async false
set_option linter.all false
set_option maxRecDepth 100000
set_option maxHeartbeats 4000000
namespace DL
open PySem PySem.Spec PyProof.Rows L2

theorem pe_or' {X : Cx} {e : Expr} {t1 t2 : TE} (h1 : PE X e t1) (h2 : PE X e t2) : PE X e (fun σ H Q => t1 σ H Q ∨ t2 σ H Q) :=
  ⟨fun pins s σ H Q I h => h.elim (h1.run pins s σ H Q I) (h2.run pins s σ H Q I)⟩
theorem pt_or' {X : Cx} {e : Expr} {t1 t2 : TT} (h1 : PT X e t1) (h2 : PT X e t2) : PT X e (fun σ H Q => t1 σ H Q ∨ t2 σ H Q) :=
  ⟨fun pins s σ H Q I h => h.elim (h1.run pins s σ H Q I) (h2.run pins s σ H Q I)⟩
theorem pi_or' {X : Cx} {tg e : Expr} {t1 t2 : TI} (h1 : PI X tg e t1) (h2 : PI X tg e t2) : PI X tg e (fun σ H Q => t1 σ H Q ∨ t2 σ H Q) :=
  ⟨fun pins s σ H Q I h => h.elim (h1.run pins s σ H Q I) (h2.run pins s σ H Q I)⟩

/-! ### keys -/
def toKey : D → Option Key
  | .int i => some (.inl i)
  | .str s => some (.inr s)
  | _ => none
def toKeys : List D → Option (List Key)
  | [] => some []
  | d :: ds => (toKey d).bind fun k => (toKeys ds).map fun r => k :: r
def atomEq : D → D → Bool
  | .int i, .int j => decide (i = j)
  | .str x, .str y => decide (x = y)
  | _, _ => false
def atomsEq : List D → List D → Bool
  | [], [] => true
  | a :: r, b :: s => atomEq a b && atomsEq r s
  | _, _ => false
def keyEq : D → D → Bool
  | .tup xs, .tup ys => atomsEq xs ys
  | a, b => atomEq a b
def dkLook : List (D × D) → D → Option D
  | [], _ => none
  | (k', v) :: r, k => if keyEq k' k = true then some v else dkLook r k
/-- in its place, or at the end -/
def dkPut (kvs : List (D × D)) (k v : D) : List (D × D) := if (kvs.any fun kv => keyEq kv.1 k) = true then kvs.map (fun kv => if keyEq kv.1 k = true then (kv.1, v) else kv) else kvs ++ [(k, v)]
/-- what a dict has at a key -/
def toIntsX : List D → Option (List Int)
  | [] => some []
  | .int i :: ds => (toIntsX ds).map (i :: ·)
  | _ => none
def dGet (d k : D) : Option (Option D) := match d with
  | .dck kvs => if (toKey k).isSome = true then some (dkLook kvs k) else none
  | .dct kvs => (match k with
    | .tup ds => if (toIntsX ds).isSome = true then some (dkLook kvs k) else none
    | _ => none)
  | _ => none
theorem toKey_keyD : ∀ {d : D} {k : Key}, toKey d = some k → d = keyD k
  | .int i, k, h => by cases h; rfl
  | .str i, k, h => by cases h; rfl
  | .non, k, h => by cases h
  | .bl _, k, h => by cases h
  | .tup _, k, h => by cases h
  | .lst _, k, h => by cases h
  | .fls _, k, h => by cases h
  | .ftp _, k, h => by cases h
  | .dck _, k, h => by cases h
  | .dct _, k, h => by cases h
  | .glb _, k, h => by cases h
  | .cell _, k, h => by cases h
theorem toIntsX_eq : ∀ {ds : List D} {ks : List Int}, toIntsX ds = some ks → ds = (ks.map Sum.inl).map keyD
  | [], ks, h => by cases h; rfl
  | d :: ds, ks, h => by
    cases d with
    | int i =>
      have h : (toIntsX ds).map (i :: ·) = some ks := h
      cases z : toIntsX ds with
      | none => rw [z] at h; cases h
      | some r =>
        rw [z] at h
        cases h
        rw [toIntsX_eq z]; rfl
    | _ => cases h
theorem toKeys_keyD : ∀ {ds : List D} {ks : List Key}, toKeys ds = some ks → ds = ks.map keyD
  | [], ks, h => by cases h; rfl
  | d :: ds, ks, h => by
    unfold toKeys at h
    cases z : toKey d with
    | none => rw [z] at h; cases h
    | some k =>
      cases z2 : toKeys ds with
      | none => rw [z, z2] at h; cases h
      | some r =>
        rw [z, z2] at h
        cases h
        rw [toKey_keyD z, toKeys_keyD z2]; rfl
theorem atomEq_keyD (a b : Key) : atomEq (keyD a) (keyD b) = decide (a = b) := by
  cases a <;> cases b <;> simp [atomEq, keyD]
theorem atomsEq_keyD : ∀ (a b : List Key), atomsEq (a.map keyD) (b.map keyD) = decide (a = b)
  | [], [] => rfl
  | [], _ :: _ => rfl
  | _ :: _, [] => rfl
  | x :: xs, y :: ys => by
    show (atomEq (keyD x) (keyD y) && atomsEq (xs.map keyD) (ys.map keyD)) = _
    rw [atomEq_keyD, atomsEq_keyD xs ys]
    by_cases h1 : x = y <;> by_cases h2 : xs = ys <;> simp [h1, h2]
theorem keyEq_keyD (a b : Key) : keyEq (keyD a) (keyD b) = decide (a = b) := by
  cases a <;> cases b <;> simp [keyEq, atomEq, keyD]
theorem keyEq_mix (a : Key) (ds : List D) : keyEq (keyD a) (.tup ds) = false := by cases a <;> rfl
theorem keyEq_mix' (a : Key) (ds : List D) : keyEq (.tup ds) (keyD a) = false := by cases a <;> rfl
section
variable {K : PySem.W.Frag} {mg : Str → Option Value} {W : Wst} {H : Hp} {w : Wd} {x : V}
def RepOpt (K : PySem.W.Frag) (mg : Str → Option Value) (W : Wst) : Option D → Option V → Prop
  | some d, some v => Rep K mg W d v
  | none, none => True
  | _, _ => False
theorem RepK.look : ∀ {kvs : List (D × D)} {kk : List (Key × V)} (k : Key), RepK K mg W kvs kk → RepOpt K mg W (dkLook kvs (keyD k)) (valV kk k)
  | [], kk, k, h => by rw [RepK] at h; subst h; trivial
  | (k', d) :: r, kk, k, h => by
    rw [RepK] at h
    obtain ⟨q, v, t, e, e2, x, y⟩ := h
    subst e e2
    unfold dkLook
    rw [keyEq_keyD]
    by_cases hq : q = k
    · rw [if_pos (decide_eq_true hq), valV_pos (p := (q, v)) hq]; exact x
    · rw [if_neg (by simp [hq]), valV_neg (p := (q, v)) hq]; exact RepK.look k y
theorem RepT.look : ∀ {kvs : List (D × D)} {kk : List (List Key × V)} (k : List Key), RepT K mg W kvs kk → RepOpt K mg W (dkLook kvs (.tup (k.map keyD))) (valV kk k)
  | [], kk, k, h => by rw [RepT] at h; subst h; trivial
  | (k', d) :: r, kk, k, h => by
    rw [RepT] at h
    obtain ⟨q, v, t, e, e2, x, y⟩ := h
    subst e e2
    unfold dkLook
    show RepOpt K mg W (if atomsEq (q.map keyD) (k.map keyD) = true then some d else dkLook r (.tup (k.map keyD))) _
    rw [atomsEq_keyD]
    by_cases hq : q = k
    · rw [if_pos (decide_eq_true hq), valV_pos (p := (q, v)) hq]; exact x
    · rw [if_neg (by simp [hq]), valV_neg (p := (q, v)) hq]; exact RepT.look k y
/-- keys of another kind are not there; an empty dict has none -/
theorem RepK.lookT : ∀ {kvs : List (D × D)} {kk : List (Key × V)} (ds : List D), RepK K mg W kvs kk → dkLook kvs (.tup ds) = none
  | [], kk, k, h => rfl
  | (k', d) :: r, kk, ds, h => by
    rw [RepK] at h
    obtain ⟨q, v, t, e, e2, x, y⟩ := h
    subst e2
    unfold dkLook
    rw [keyEq_mix, if_neg (by decide)]
    exact RepK.lookT ds y
theorem RepK.length : ∀ {kvs : List (D × D)} {kk : List (Key × V)}, RepK K mg W kvs kk → kvs.length = kk.length
  | [], kk, h => by rw [RepK] at h; subst h; rfl
  | (k', d) :: r, kk, h => by
    rw [RepK] at h
    obtain ⟨q, v, t, e, e2, x, y⟩ := h
    subst e
    rw [List.length_cons, List.length_cons, RepK.length y]
theorem RepT.length : ∀ {kvs : List (D × D)} {kk : List (List Key × V)}, RepT K mg W kvs kk → kvs.length = kk.length
  | [], kk, h => by rw [RepT] at h; subst h; rfl
  | (k', d) :: r, kk, h => by
    rw [RepT] at h
    obtain ⟨q, v, t, e, e2, x, y⟩ := h
    subst e
    rw [List.length_cons, List.length_cons, RepT.length y]
theorem RepK.any : ∀ {kvs : List (D × D)} {kk : List (Key × V)} (k : Key), RepK K mg W kvs kk → (kvs.any fun kv => keyEq kv.1 (keyD k)) = (kk.any fun kv => decide (kv.1 = k))
  | [], kk, k, h => by rw [RepK] at h; subst h; rfl
  | (k', d) :: r, kk, k, h => by
    rw [RepK] at h
    obtain ⟨q, v, t, e, e2, x, y⟩ := h
    subst e e2
    rw [List.any_cons, List.any_cons, RepK.any k y, keyEq_keyD]
theorem RepT.any : ∀ {kvs : List (D × D)} {kk : List (List Key × V)} (k : List Key), RepT K mg W kvs kk → (kvs.any fun kv => keyEq kv.1 (.tup (k.map keyD))) = (kk.any fun kv => decide (kv.1 = k))
  | [], kk, k, h => by rw [RepT] at h; subst h; rfl
  | (k', d) :: r, kk, k, h => by
    rw [RepT] at h
    obtain ⟨q, v, t, e, e2, x, y⟩ := h
    subst e e2
    rw [List.any_cons, List.any_cons, RepT.any k y]
    show (atomsEq _ _ || _) = _
    rw [atomsEq_keyD]
theorem RepK.map : ∀ {kvs : List (D × D)} {kk : List (Key × V)} (k : Key) {d : D} {v : V}, Rep K mg W d v → RepK K mg W kvs kk → RepK K mg W (kvs.map fun kv => if keyEq kv.1 (keyD k) = true then (kv.1, d) else kv) (kk.map fun kv => if kv.1 = k then (kv.1, v) else kv)
  | [], kk, k, d, v, hr, h => by rw [RepK] at h; subst h; rw [List.map_nil, List.map_nil, RepK]
  | (k', d') :: r, kk, k, d, v, hr, h => by
    rw [RepK] at h
    obtain ⟨q, u, t, e, e2, x, y⟩ := h
    subst e e2
    rw [List.map_cons, List.map_cons]
    have ih := RepK.map k hr y
    dsimp only
    rw [keyEq_keyD]
    by_cases hq : q = k
    · rw [if_pos (decide_eq_true hq), if_pos hq, RepK]; exact ⟨q, v, _, rfl, rfl, hr, ih⟩
    · rw [if_neg (by simp [hq]), if_neg hq, RepK]; exact ⟨q, u, _, rfl, rfl, x, ih⟩
theorem RepT.map : ∀ {kvs : List (D × D)} {kk : List (List Key × V)} (k : List Key) {d : D} {v : V}, Rep K mg W d v → RepT K mg W kvs kk → RepT K mg W (kvs.map fun kv => if keyEq kv.1 (.tup (k.map keyD)) = true then (kv.1, d) else kv) (kk.map fun kv => if kv.1 = k then (kv.1, v) else kv)
  | [], kk, k, d, v, hr, h => by rw [RepT] at h; subst h; rw [List.map_nil, List.map_nil, RepT]
  | (k', d') :: r, kk, k, d, v, hr, h => by
    rw [RepT] at h
    obtain ⟨q, u, t, e, e2, x, y⟩ := h
    subst e e2
    rw [List.map_cons, List.map_cons]
    have ih := RepT.map k hr y
    dsimp only
    rw [show keyEq (.tup (q.map keyD)) (.tup (k.map keyD)) = atomsEq (q.map keyD) (k.map keyD) from rfl, atomsEq_keyD]
    by_cases hq : q = k
    · rw [if_pos (decide_eq_true hq), if_pos hq, RepT]; exact ⟨q, v, _, rfl, rfl, hr, ih⟩
    · rw [if_neg (by simp [hq]), if_neg hq, RepT]; exact ⟨q, u, _, rfl, rfl, x, ih⟩
theorem RepK.snoc : ∀ {kvs : List (D × D)} {kk : List (Key × V)} (k : Key) {d : D} {v : V}, Rep K mg W d v → RepK K mg W kvs kk → RepK K mg W (kvs ++ [(keyD k, d)]) (kk ++ [(k, v)])
  | [], kk, k, d, v, hr, h => by rw [RepK] at h; subst h; rw [List.nil_append, List.nil_append, RepK]; exact ⟨k, v, [], rfl, rfl, hr, by rw [RepK]⟩
  | (k', d') :: r, kk, k, d, v, hr, h => by
    rw [RepK] at h
    obtain ⟨q, u, t, e, e2, x, y⟩ := h
    subst e e2
    rw [List.cons_append, List.cons_append, RepK]
    exact ⟨q, u, _, rfl, rfl, x, RepK.snoc k hr y⟩
theorem RepT.snoc : ∀ {kvs : List (D × D)} {kk : List (List Key × V)} (k : List Key) {d : D} {v : V}, Rep K mg W d v → RepT K mg W kvs kk → RepT K mg W (kvs ++ [(.tup (k.map keyD), d)]) (kk ++ [(k, v)])
  | [], kk, k, d, v, hr, h => by rw [RepT] at h; subst h; rw [List.nil_append, List.nil_append, RepT]; exact ⟨k, v, [], rfl, rfl, hr, by rw [RepT]⟩
  | (k', d') :: r, kk, k, d, v, hr, h => by
    rw [RepT] at h
    obtain ⟨q, u, t, e, e2, x, y⟩ := h
    subst e e2
    rw [List.cons_append, List.cons_append, RepT]
    exact ⟨q, u, _, rfl, rfl, x, RepT.snoc k hr y⟩
theorem RepK.put {kvs : List (D × D)} {kk : List (Key × V)} (k : Key) {d : D} {v : V} (hr : Rep K mg W d v) (h : RepK K mg W kvs kk) : RepK K mg W (dkPut kvs (keyD k) d) (putK kk k v) := by
  unfold dkPut putK
  rw [h.any k]
  split
  · exact h.map k hr
  · exact h.snoc k hr
theorem RepT.put {kvs : List (D × D)} {kk : List (List Key × V)} (k : List Key) {d : D} {v : V} (hr : Rep K mg W d v) (h : RepT K mg W kvs kk) : RepT K mg W (dkPut kvs (.tup (k.map keyD)) d) (putK kk k v) := by
  unfold dkPut putK
  rw [h.any k]
  split
  · exact h.map k hr
  · exact h.snoc k hr
theorem Reps.keys : ∀ {ks : List Key} {vs : List V}, Reps K mg W (ks.map keyD) vs → vs = ks.map kV
  | [], vs, h => by rw [List.map_nil, Reps] at h; exact h
  | k :: ks, vs, h => by
    rw [List.map_cons, Reps] at h
    obtain ⟨v, r, e, q, t⟩ := h
    subst e
    rw [Reps.keys t, List.map_cons]
    cases k with
    | inl i => rw [keyD, Rep] at q; rw [q]; rfl
    | inr i => rw [keyD, Rep] at q; rw [q]; rfl
theorem Rep.key {k : Key} {v : V} (h : Rep K mg W (keyD k) v) : v = kV k := by
  cases k with
  | inl i => rw [keyD, Rep] at h; exact h
  | inr i => rw [keyD, Rep] at h; exact h
theorem rep_key (k : Key) : Rep K mg W (keyD k) (kV k) := by
  cases k with
  | inl i => rw [keyD, Rep]; rfl
  | inr i => rw [keyD, Rep]; rfl
theorem reps_keys : ∀ (ks : List Key), Reps K mg W (ks.map keyD) (ks.map kV)
  | [] => Reps.nil
  | k :: ks => Reps.cons (rep_key k) (reps_keys ks)
theorem Con.key {k : D} {q : Key} {xk : V} (h : toKey k = some q) (ck : Con K mg W H k xk) : xk = kV q := by
  have e := toKey_keyD h
  subst e
  rcases ck with c | ⟨_, _, _, _, z, _⟩
  · exact Rep.key c
  · cases q <;> exact z.elim
/-- what a dict has at a key, by HandS's word -/
theorem Con.dget (wr : WR K mg w H W) {d k : D} {r : Option D} {xd xk : V} (cd : Con K mg W H d xd) (ck : Con K mg W H k xk) (h : dGet d k = some r) :
    ∃ a o, xd = .ref a ∧ DGx H a xk o ∧ RepOpt K mg W r o := by
  unfold dGet at h
  split at h
  · rename_i kvs
    obtain ⟨a, e, kk, q, rk⟩ := cd.dck wr
    split at h
    · rename_i hk
      cases h
      obtain ⟨q', hq⟩ := Option.isSome_iff_exists.mp hk
      refine ⟨a, _, e, .inl (.inl ⟨kk, q', q, ck.key hq, rfl⟩), ?_⟩
      rw [toKey_keyD hq]
      exact rk.look q'
    · cases h
  · rename_i kvs
    obtain ⟨a, e, b, xs, q, hk, rk⟩ := cd.dct wr
    split at h
    · rename_i ds
      split at h
      · rename_i hh
        cases h
        obtain ⟨ks, hq⟩ := Option.isSome_iff_exists.mp hh
        obtain ⟨c, vs, e2, q2, r2⟩ := ck.tup wr
        have e3 := toIntsX_eq hq
        subst e3
        have ev : vs = ks.map V.int := by rw [r2.keys, List.map_map]; rfl
        subst ev
        exact ⟨a, _, e, .inr ⟨b, xs, ks, c, q, hk, e2, q2, rfl⟩, rk.look (ks.map Sum.inl)⟩
      · cases h
    · cases h
  · cases h
end
end DL

set_option Elab.async false
set_option linter.all false
set_option maxRecDepth 100000
set_option maxHeartbeats 4000000
namespace DL
open PySem PySem.Spec PyProof.Rows L2

/-! ### what is walked, by data -/
def iterD : D → Option (List D)
  | .tup ds => some ds
  | .ftp ds => some ds
  | .lst ds => some ds
  | .fls ds => some ds
  | .dck kvs => some (kvs.map (·.1))
  | _ => none
def eItv (f : EX D) : EX (List D) := eBind f fun d _ => M.ofOption (iterD d)
section
variable {K : PySem.W.Frag} {mg : Str → Option Value} {W : Wst} {H : Hp} {w : Wd}
theorem at_list {a : Addr} {vs : List V} {ds : List D} {i : Nat} (wr : WR K mg w H W) (h : SqL K H a vs) (r : Reps K mg W ds vs) : ItAt K mg (Itl K a) ds i w H W :=
  ⟨fun d e => by
    obtain ⟨v, e1, e2⟩ := r.get e
    exact ⟨⟨vs, v, h, e1⟩, fun x H3 ⟨q1, q2⟩ => by
      have z := q2 vs h
      rw [e1] at z; cases z
      subst q1
      exact ⟨W, Grow.refl _ _, wr, e2⟩⟩, fun hl => ⟨vs, h, by rw [← r.length]; exact hl⟩⟩
theorem at_tup {a : Addr} {vs : List V} {ds : List D} {i : Nat} (wr : WR K mg w H W) (h : SqT K H a vs) (r : Reps K mg W ds vs) : ItAt K mg (Itt K a) ds i w H W :=
  ⟨fun d e => by
    obtain ⟨v, e1, e2⟩ := r.get e
    exact ⟨⟨vs, v, h, e1⟩, fun x H3 ⟨q1, q2⟩ => by
      have z := q2 vs h
      rw [e1] at z; cases z
      subst q1
      exact ⟨W, Grow.refl _ _, wr, e2⟩⟩, fun hl => ⟨vs, h, by rw [← r.length]; exact hl⟩⟩
theorem new_tup {T : Addr} {vs : List V} {ds : List D} (wr : WR K mg w H W) (h : H T = none) (r : Reps K mg W ds vs) : ∃ W3, Grow W H W3 (upd H T (.tup vs)) ∧ WR K mg w (upd H T (.tup vs)) W3 ∧ Rep K mg W3 (.ftp ds) (.ref T) := by
  obtain ⟨f0, n0⟩ := wr.fresh h wr.len
  refine ⟨W.put T (.tup vs), (Grow.lay h).freeze f0 h, (wr.lay h).freeze upd_same f0 n0, ?_⟩
  rw [Rep]
  exact ⟨T, vs, rfl, SqT.of upd_same, Reps.le (Wle.put f0) _ _ r⟩
theorem new_tupM {T : Addr} {ob : Obj} {vs : List V} {ds : List D} (wr : WR K mg w H W) (h : H T = none) (hcl : ob.cls = .type "tuple") (hdi : ob.dict = none) (r : Reps K mg W ds vs) : ∃ W3, Grow W H W3 (upd H T (.frz ob (.tup vs))) ∧ WR K mg w (upd H T (.frz ob (.tup vs))) W3 ∧ Rep K mg W3 (.tup ds) (.ref T) := by
  obtain ⟨f0, n0⟩ := wr.fresh h wr.len
  refine ⟨W.put T (.frz ob (.tup vs)), (Grow.lay h).freeze f0 h, (wr.lay h).freeze upd_same f0 n0, ?_⟩
  rw [Rep]
  exact ⟨T, vs, rfl, ⟨ob, upd_same, hcl, hdi⟩, Reps.le (Wle.put f0) _ _ r⟩
def enumD (ds : List D) : List D := ds.mapIdx fun i d => .ftp [.int (i : Nat), d]
theorem enumD_get (ds : List D) (i : Nat) : (enumD ds)[i]? = (ds[i]?).map fun d => .ftp [.int (i : Nat), d] := by unfold enumD; rw [List.getElem?_mapIdx]
theorem enumD_length (ds : List D) : (enumD ds).length = ds.length := by unfold enumD; rw [List.length_mapIdx]
theorem at_enum {a : Addr} {vs : List V} {ds : List D} {i : Nat} (wr : WR K mg w H W) (h : SqL K H a vs) (r : Reps K mg W ds vs) : ItAt K mg (Ite K a) (enumD ds) i w H W :=
  ⟨fun d e => by
    rw [enumD_get] at e
    cases z : ds[i]? with
    | none => rw [z] at e; cases e
    | some d0 =>
      rw [z] at e
      cases e
      obtain ⟨v, e1, e2⟩ := r.get z
      refine ⟨⟨vs, v, h, e1⟩, fun x H3 ⟨T, x', q1, q2, q3, q4⟩ => ?_⟩
      have z := q4 vs h
      rw [e1] at z; cases z
      subst q1 q3
      exact new_tup wr q2 (Reps.cons (by rw [Rep]) (Reps.cons e2 Reps.nil)), fun hl => ⟨vs, h, by rw [← r.length, ← enumD_length]; exact hl⟩⟩
theorem at_enumT {a : Addr} {vs : List V} {ds : List D} {i : Nat} (wr : WR K mg w H W) (h : SqT K H a vs) (r : Reps K mg W ds vs) : ItAt K mg (IteT K a) (enumD ds) i w H W :=
  ⟨fun d e => by
    rw [enumD_get] at e
    cases z : ds[i]? with
    | none => rw [z] at e; cases e
    | some d0 =>
      rw [z] at e
      cases e
      obtain ⟨v, e1, e2⟩ := r.get z
      refine ⟨⟨vs, v, h, e1⟩, fun x H3 ⟨T, x', q1, q2, q3, q4⟩ => ?_⟩
      have z := q4 vs h
      rw [e1] at z; cases z
      subst q1 q3
      exact new_tup wr q2 (Reps.cons (by rw [Rep]) (Reps.cons e2 Reps.nil)), fun hl => ⟨vs, h, by rw [← r.length, ← enumD_length]; exact hl⟩⟩
def zipD (xs ys : List D) : List D := (xs.zip ys).map fun p => .ftp [p.1, p.2]
theorem zipD_get (xs ys : List D) (i : Nat) {d : D} (h : (zipD xs ys)[i]? = some d) : ∃ x y, xs[i]? = some x ∧ ys[i]? = some y ∧ d = .ftp [x, y] := by
  unfold zipD at h
  rw [List.getElem?_map] at h
  cases z : (xs.zip ys)[i]? with
  | none => rw [z] at h; cases h
  | some p =>
    rw [z] at h
    cases h
    have q := List.getElem?_zip_eq_some.mp z
    exact ⟨p.1, p.2, q.1, q.2, rfl⟩
theorem zipD_length (xs ys : List D) : (zipD xs ys).length = min xs.length ys.length := by unfold zipD; rw [List.length_map, List.length_zip]
theorem at_zip {a b : Addr} {vs us : List V} {ds es : List D} {i : Nat} (wr : WR K mg w H W) (h : SqL K H a vs) (h' : SqL K H b us) (r : Reps K mg W ds vs) (r' : Reps K mg W es us) : ItAt K mg (Itz K a b) (zipD ds es) i w H W :=
  ⟨fun d e => by
    obtain ⟨x, y, e1, e2, rfl⟩ := zipD_get ds es i e
    obtain ⟨v, f1, f2⟩ := r.get e1
    obtain ⟨u, g1, g2⟩ := r'.get e2
    refine ⟨⟨vs, us, v, u, h, h', f1, g1⟩, fun x H3 ⟨T, x', y', q1, q2, q3, q4, q5⟩ => ?_⟩
    have z := q4 vs h
    rw [f1] at z; cases z
    have z := q5 us h'
    rw [g1] at z; cases z
    subst q1 q3
    exact new_tup wr q2 (Reps.cons f2 (Reps.cons g2 Reps.nil)), fun hl => ⟨vs, us, h, h', by rw [zipD_length] at hl; rw [← r.length, ← r'.length]; omega⟩⟩
theorem at_zipT {a b : Addr} {vs us : List V} {ds es : List D} {i : Nat} (wr : WR K mg w H W) (h : SqT K H a vs) (h' : SqT K H b us) (r : Reps K mg W ds vs) (r' : Reps K mg W es us) : ItAt K mg (RZ.ItzT K a b) (zipD ds es) i w H W :=
  ⟨fun d e => by
    obtain ⟨x, y, e1, e2, rfl⟩ := zipD_get ds es i e
    obtain ⟨v, f1, f2⟩ := r.get e1
    obtain ⟨u, g1, g2⟩ := r'.get e2
    refine ⟨⟨vs, us, v, u, h, h', f1, g1⟩, fun x H3 ⟨T, x', y', q1, q2, q3, q4, q5⟩ => ?_⟩
    have z := q4 vs h
    rw [f1] at z; cases z
    have z := q5 us h'
    rw [g1] at z; cases z
    subst q1 q3
    exact new_tup wr q2 (Reps.cons f2 (Reps.cons g2 Reps.nil)), fun hl => ⟨vs, us, h, h', by rw [zipD_length] at hl; rw [← r.length, ← r'.length]; omega⟩⟩
theorem repK_get : ∀ {kvs : List (D × D)} {kk : List (Key × V)} {i : Nat} {p : D × D}, RepK K mg W kvs kk → kvs[i]? = some p → ∃ k v, kk[i]? = some (k, v) ∧ p.1 = keyD k ∧ Rep K mg W p.2 v
  | [], kk, i, p, h, e => by simp at e
  | (k', d) :: r, kk, i, p, h, e => by
    rw [RepK] at h
    obtain ⟨q, v, t, e1, e2, x, y⟩ := h
    subst e1
    cases i with
    | zero => simp at e; subst e; exact ⟨q, v, rfl, e2, x⟩
    | succ i =>
      obtain ⟨k, u, a, b⟩ := repK_get (i := i) y (by simpa using e)
      exact ⟨k, u, by simpa using a, b⟩
theorem repT_get : ∀ {kvs : List (D × D)} {kk : List (List Key × V)} {i : Nat} {p : D × D}, RepT K mg W kvs kk → kvs[i]? = some p → ∃ k v, kk[i]? = some (k, v) ∧ p.1 = .tup (k.map keyD) ∧ Rep K mg W p.2 v
  | [], kk, i, p, h, e => by simp at e
  | (k', d) :: r, kk, i, p, h, e => by
    rw [RepT] at h
    obtain ⟨q, v, t, e1, e2, x, y⟩ := h
    subst e1
    cases i with
    | zero => simp at e; subst e; exact ⟨q, v, rfl, e2, x⟩
    | succ i =>
      obtain ⟨k, u, a, b⟩ := repT_get (i := i) y (by simpa using e)
      exact ⟨k, u, by simpa using a, b⟩
theorem at_keys {d : Addr} {o : Obj} {kvs : List (D × D)} {kk : List (Key × V)} {i : Nat} (wr : WR K mg w H W) (h : H d = some (.frz o (.dK kk))) (r : RepK K mg W kvs kk) : ItAt K mg (Itk d o kk) (kvs.map (·.1)) i w H W :=
  ⟨fun x e => by
    rw [List.getElem?_map] at e
    cases z : kvs[i]? with
    | none => rw [z] at e; cases e
    | some p =>
      rw [z] at e
      have e : p.1 = x := by simpa using e
      subst e
      obtain ⟨k, v, e1, e2, e3⟩ := repK_get r z
      refine ⟨⟨h, (List.getElem?_eq_some_iff.mp e1).1⟩, fun x H3 ⟨q1, k', v', q2, q3⟩ => ?_⟩
      rw [e1] at q2; cases q2
      subst q1 q3
      exact ⟨W, Grow.refl _ _, wr, by rw [e2]; exact rep_key k⟩, fun hl => ⟨h, by rw [List.length_map, r.length] at hl; exact hl⟩⟩
theorem at_vals {d : Addr} {o : Obj} {kvs : List (D × D)} {kk : List (Key × V)} {i : Nat} (wr : WR K mg w H W) (h : H d = some (.frz o (.dK kk))) (r : RepK K mg W kvs kk) : ItAt K mg (Itd d o kk) (kvs.map (·.2)) i w H W :=
  ⟨fun x e => by
    rw [List.getElem?_map] at e
    cases z : kvs[i]? with
    | none => rw [z] at e; cases e
    | some p =>
      rw [z] at e
      have e : p.2 = x := by simpa using e
      subst e
      obtain ⟨k, v, e1, e2, e3⟩ := repK_get r z
      refine ⟨⟨h, (List.getElem?_eq_some_iff.mp e1).1⟩, fun x H3 ⟨q1, k', q2⟩ => ?_⟩
      rw [e1] at q2; cases q2
      subst q1
      exact ⟨W, Grow.refl _ _, wr, e3⟩, fun hl => ⟨h, by rw [List.length_map, r.length] at hl; exact hl⟩⟩
theorem at_items {d : Addr} {o : Obj} {kvs : List (D × D)} {kk : List (Key × V)} {i : Nat} (wr : WR K mg w H W) (h : H d = some (.frz o (.dK kk))) (r : RepK K mg W kvs kk) : ItAt K mg (Iti d o kk) (kvs.map fun p => .ftp [p.1, p.2]) i w H W :=
  ⟨fun x e => by
    rw [List.getElem?_map] at e
    cases z : kvs[i]? with
    | none => rw [z] at e; cases e
    | some p =>
      rw [z] at e
      have e : DL.D.ftp [p.1, p.2] = x := by simpa using e
      subst e
      obtain ⟨k, v, e1, e2, e3⟩ := repK_get r z
      refine ⟨⟨h, (List.getElem?_eq_some_iff.mp e1).1⟩, fun x H3 ⟨T, k', v', q1, q2, q3, q4⟩ => ?_⟩
      rw [e1] at q1; cases q1
      subst q2 q4
      exact new_tup wr q3 (Reps.cons (by rw [e2]; exact rep_key k) (Reps.cons e3 Reps.nil)), fun hl => ⟨h, by rw [List.length_map, r.length] at hl; exact hl⟩⟩
def rangeD (lo : Int) (n : Nat) : List D := (List.range n).map fun i => .int (lo + (i : Nat))
def rangeDC (lo c : Int) (n : Nat) : List D := (List.range n).map fun i => .int (lo + (i : Nat) * c)
theorem at_range {lo : Int} {n i : Nat} (wr : WR K mg w H W) : ItAt K mg (Itr lo n) (rangeD lo n) i w H W :=
by
  refine ⟨fun d e => ?_, fun hl => by unfold rangeD at hl; simp at hl; exact hl⟩
  unfold rangeD at e
  rw [List.getElem?_map] at e
  by_cases hl : i < n
  · rw [List.getElem?_range hl] at e
    cases e
    exact ⟨hl, fun x H3 ⟨q1, q2⟩ => by subst q1 q2; exact ⟨W, Grow.refl _ _, wr, by rw [Rep]⟩⟩
  · rw [List.getElem?_eq_none_iff.mpr (by simp; omega)] at e; cases e
theorem at_rangeC {lo c : Int} {n i : Nat} (wr : WR K mg w H W) : ItAt K mg (Itc lo c n) (rangeDC lo c n) i w H W :=
by
  refine ⟨fun d e => ?_, fun hl => by unfold rangeDC at hl; simp at hl; exact hl⟩
  unfold rangeDC at e
  rw [List.getElem?_map] at e
  by_cases hl : i < n
  · rw [List.getElem?_range hl] at e
    cases e
    exact ⟨hl, fun x H3 ⟨q1, q2⟩ => by subst q1 q2; exact ⟨W, Grow.refl _ _, wr, by rw [Rep]⟩⟩
  · rw [List.getElem?_eq_none_iff.mpr (by simp; omega)] at e; cases e
end

section
variable {X : Cx} {Wx : WX'} {tg e e2 e3 : Expr} {f g k : EX D} {p pos apos cpos tpos : Pos} {elts : List Expr} {kk : Nat}
/-- for x in e: a list, a tuple, a dict's keys -/
theorem di_val (h : DF X Wx e f) : DIF X Wx tg e (eItv f) := ⟨pi_imp (pi_or' (pi_list h.pe) (pi_or' (pi_tup h.pe) (pi_keys h.pe))) fun σ H R ⟨H0, Γ, w, W, wr, s, p⟩ => by
  have p := Post.bind p
  cases z : f Γ w with
  | stuck => rw [z] at p; exact p.elim
  | exc e w1 => rw [z] at p; exact .inl ⟨H0, Γ, w, W, wr, s, by rw [z]; exact p⟩
  | ok d w1 =>
    rw [z] at p
    have get : ∀ {ds : List D}, iterD d = some ds → ∀ H' W', Grow W H W' H' → WR X.K X.mg w1 H' W' → ∀ J, ItF X.K X.mg J ds W' → R J H' := fun {ds} e H' W' g r J hJ => by
      obtain ⟨ds', e', q⟩ := Post.opt (o := iterD d) (p H' W' g r)
      rw [e] at e'; cases e'
      exact q H' W' (Grow.refl _ _) r J hJ
    cases d with
    | lst ds =>
      refine .inl ⟨H0, Γ, w, W, wr, s, ?_⟩
      rw [z]; intro H' W' g r v c
      rw [Rep] at c
      obtain ⟨a, vs, e, q, rp⟩ := c
      exact ⟨a, e, ⟨vs, SqL.of (r.sub _ _ q)⟩, get rfl H' W' g r _ fun i w2 H2 W2 l r2 => at_list r2 (SqL.of (r2.sub _ _ (l.f _ _ q))) (Reps.le l _ _ rp)⟩
    | fls ds =>
      refine .inl ⟨H0, Γ, w, W, wr, s, ?_⟩
      rw [z]; intro H' W' g r v c
      rw [Rep] at c
      obtain ⟨a, vs, e, q, rp⟩ := c
      exact ⟨a, e, ⟨vs, SqL.le r.sub q⟩, get rfl H' W' g r _ fun i w2 H2 W2 l r2 => at_list r2 (SqL.le r2.sub (SqL.le l.f q)) (Reps.le l _ _ rp)⟩
    | tup ds =>
      refine .inr (.inl ⟨H0, Γ, w, W, wr, s, ?_⟩)
      rw [z]; intro H' W' g r v c
      rw [Rep] at c
      obtain ⟨a, vs, e, q, rp⟩ := c
      exact ⟨a, e, ⟨vs, (q.le r.sub).sq⟩, get rfl H' W' g r _ fun i w2 H2 W2 l r2 => at_tup r2 ((q.le l.f).le r2.sub).sq (Reps.le l _ _ rp)⟩
    | ftp ds =>
      refine .inr (.inl ⟨H0, Γ, w, W, wr, s, ?_⟩)
      rw [z]; intro H' W' g r v c
      rw [Rep] at c
      obtain ⟨a, vs, e, q, rp⟩ := c
      exact ⟨a, e, ⟨vs, SqT.le r.sub q⟩, get rfl H' W' g r _ fun i w2 H2 W2 l r2 => at_tup r2 (SqT.le r2.sub (SqT.le l.f q)) (Reps.le l _ _ rp)⟩
    | dck kvs =>
      refine .inr (.inr ⟨H0, Γ, w, W, wr, s, ?_⟩)
      rw [z]; intro H' W' g r v c
      rw [Rep] at c
      obtain ⟨a, ob, e, kk, q, rp⟩ := c
      exact ⟨a, ob, e, .inl ⟨kk, r.sub _ _ q, get rfl H' W' g r _ fun i w2 H2 W2 l r2 => at_keys r2 (r2.sub _ _ (l.f _ _ q)) (RepK.le l _ _ rp)⟩⟩
    | _ =>
      refine .inl ⟨H0, Γ, w, W, wr, s, ?_⟩
      rw [z]; intro H' W' g r v c
      obtain ⟨ds', e', q⟩ := Post.opt (o := iterD _) (p H' W' g r)
      cases e'⟩
end
end DL

set_option Elab.async false
set_option linter.all false
set_option maxRecDepth 100000
set_option maxHeartbeats 4000000
namespace DL
open PySem PySem.Spec PyProof.Rows L2

def lsD : D → Option (List D)
  | .lst ds => some ds
  | .fls ds => some ds
  | _ => none
def tpD : D → Option (List D)
  | .tup ds => some ds
  | .ftp ds => some ds
  | _ => none
theorem seqD_of {d : D} {ds : List D} (h : seqD d = some ds) : lsD d = some ds ∨ (lsD d = none ∧ tpD d = some ds) := by
  cases d <;> first | exact .inl h | exact .inr ⟨rfl, h⟩ | cases h
section
variable {K : PySem.W.Frag} {mg : Str → Option Value} {W W' : Wst} {H : Hp} {w : Wd}
theorem Con.sqL (wr : WR K mg w H W) {d : D} {x : V} {ds : List D} (hm : lsD d = some ds) (h : Con K mg W H d x) :
    ∃ a vs, x = .ref a ∧ Reps K mg W ds vs ∧ SqL K H a vs ∧ ∀ w2 H2 W2, Grow W H W2 H2 → WR K mg w2 H2 W2 → SqL K H2 a vs := by
  rcases h with h | ⟨a, o, e, q, r, n⟩
  · cases d with
    | lst b => cases hm; rw [Rep] at h; obtain ⟨a, vs, e, q, r⟩ := h; exact ⟨a, vs, e, r, SqL.of (wr.sub _ _ q), fun w2 H2 W2 g r2 => SqL.of (r2.sub _ _ (g.le.f _ _ q))⟩
    | fls b => cases hm; rw [Rep] at h; obtain ⟨a, vs, e, q, r⟩ := h; exact ⟨a, vs, e, r, SqL.le wr.sub q, fun w2 H2 W2 g r2 => SqL.le r2.sub (SqL.le g.le.f q)⟩
    | _ => cases hm
  · cases d with
    | lst b =>
      cases o with
      | lst vs => cases hm; exact ⟨a, vs, e, r, SqL.of q, fun w2 H2 W2 g r2 => SqL.of (g.keep a _ q n)⟩
      | _ => exact r.elim
    | dck _ => cases hm
    | dct _ => cases hm
    | _ => exact r.elim
theorem Con.sqT (wr : WR K mg w H W) {d : D} {x : V} {ds : List D} (hm : tpD d = some ds) (h : Con K mg W H d x) :
    ∃ a vs, x = .ref a ∧ Reps K mg W ds vs ∧ SqT K H a vs ∧ ∀ w2 H2 W2, Wle W W2 → WR K mg w2 H2 W2 → SqT K H2 a vs := by
  rcases h with h | ⟨a, o, e, q, r, n⟩
  · cases d with
    | tup b => cases hm; rw [Rep] at h; obtain ⟨a, vs, e, q, r⟩ := h; exact ⟨a, vs, e, r, (q.le wr.sub).sq, fun w2 H2 W2 g r2 => ((q.le g.f).le r2.sub).sq⟩
    | ftp b => cases hm; rw [Rep] at h; obtain ⟨a, vs, e, q, r⟩ := h; exact ⟨a, vs, e, r, SqT.le wr.sub q, fun w2 H2 W2 g r2 => SqT.le r2.sub (SqT.le g.f q)⟩
    | _ => cases hm
  · cases d with
    | lst b => cases hm
    | dck _ => cases hm
    | dct _ => cases hm
    | _ => exact r.elim
theorem Rep.sqL (wr : WR K mg w H W) {d : D} {x : V} {ds : List D} (hm : lsD d = some ds) (h : Rep K mg W d x) :
    ∃ a vs, x = .ref a ∧ Reps K mg W ds vs ∧ SqL K H a vs ∧ ∀ w2 H2 W2, Wle W W2 → WR K mg w2 H2 W2 → SqL K H2 a vs := by
  cases d with
  | lst b => cases hm; rw [Rep] at h; obtain ⟨a, vs, e, q, r⟩ := h; exact ⟨a, vs, e, r, SqL.of (wr.sub _ _ q), fun w2 H2 W2 g r2 => SqL.of (r2.sub _ _ (g.f _ _ q))⟩
  | fls b => cases hm; rw [Rep] at h; obtain ⟨a, vs, e, q, r⟩ := h; exact ⟨a, vs, e, r, SqL.le wr.sub q, fun w2 H2 W2 g r2 => SqL.le r2.sub (SqL.le g.f q)⟩
  | _ => cases hm
theorem Rep.sqT (wr : WR K mg w H W) {d : D} {x : V} {ds : List D} (hm : tpD d = some ds) (h : Rep K mg W d x) :
    ∃ a vs, x = .ref a ∧ Reps K mg W ds vs ∧ SqT K H a vs ∧ ∀ w2 H2 W2, Wle W W2 → WR K mg w2 H2 W2 → SqT K H2 a vs := Con.sqT wr hm (.inl h)
end
/-- one argument's sequence -/
def eArg1 (f : EX (List D)) : EX D := eBind f fun ds _ => M.ofOption (match ds with
  | [d] => some d
  | _ => none)
def eEnum (f : EX D) : EX (List D) := eBind f fun d _ => M.ofOption ((seqD d).map enumD)
def both (d e : D) : Option (List D × List D) := match d, e with
  | .tup a, .tup b => some (a, b)
  | .tup a, .ftp b => some (a, b)
  | .ftp a, .tup b => some (a, b)
  | .ftp a, .ftp b => some (a, b)
  | .lst a, .lst b => some (a, b)
  | .lst a, .fls b => some (a, b)
  | .fls a, .lst b => some (a, b)
  | .fls a, .fls b => some (a, b)
  | _, _ => none
def eZip (f g : EX D) : EX (List D) := eBind f fun a => eBind g fun b => fun _ => M.ofOption ((both a b).map fun p => zipD p.1 p.2)
def in62 (i : Int) : Bool := decide (-(2 ^ 62) ≤ i ∧ i < 2 ^ 62)
def rg1 : D → Option (List D)
  | .int j => if in62 j then some (rangeD 0 j.toNat) else none
  | _ => none
def rg2 : D → D → Option (List D)
  | .int i, .int j => if in62 i && in62 j then some (rangeD i (j - i).toNat) else none
  | _, _ => none
def rg3 : D → D → D → Option (List D)
  | .int i, .int j, .int c => if in62 i && in62 j && decide (c = -1) then some (rangeDC i c (i - j).toNat) else none
  | _, _, _ => none
def eRg1 (f : EX D) : EX (List D) := eBind f fun a => fun _ => M.ofOption (rg1 a)
def eRg2 (f g : EX D) : EX (List D) := eBind f fun a => eBind g fun b => fun _ => M.ofOption (rg2 a b)
def eRg3 (f g k : EX D) : EX (List D) := eBind f fun a => eBind g fun b => eBind k fun c => fun _ => M.ofOption (rg3 a b c)
def itemsD : D → Option (List D)
  | .dck kvs => some (kvs.map fun p => .ftp [p.1, p.2])
  | _ => none
def valsD : D → Option (List D)
  | .dck kvs => some (kvs.map (·.2))
  | _ => none
def eItems (f : EX D) : EX (List D) := eBind f fun a => fun _ => M.ofOption (itemsD a)
def eVals (f : EX D) : EX (List D) := eBind f fun a => fun _ => M.ofOption (valsD a)

section
variable {X : Cx} {Wx : WX'} {tg e e2 e3 : Expr} {f g k : EX D} {p pos apos cpos tpos : Pos} {elts : List Expr} {kk : Nat}
/-- a walk in a comprehension -/
theorem dip_val (h : DP X Wx e f) : DIP X Wx tg e (eSeq f) := ⟨pi_imp (pi_or' (pi_list h.pe) (pi_tup h.pe)) fun σ H R ⟨H0, Γ, w, W, wr, s, p⟩ => by
  have p := Post.bind p
  cases z : f Γ w with
  | stuck => rw [z] at p; exact p.elim
  | exc e w1 => rw [z] at p; exact .inl ⟨H0, Γ, w, W, wr, s, by rw [z]; exact p⟩
  | ok d w1 =>
    rw [z] at p
    cases zs : seqD d with
    | none =>
      refine .inl ⟨H0, Γ, w, W, wr, s, ?_⟩
      rw [z]; intro H' W' g r v c
      obtain ⟨ds', e', q⟩ := Post.opt (p H' W' g r)
      rw [zs] at e'; cases e'
    | some ds =>
      have get : ∀ H' W', Grow W H W' H' → WR X.K X.mg w1 H' W' → ∀ J, ItP X.K X.mg J ds W' H' → R J H' := fun H' W' g r J hJ => by
        obtain ⟨ds', e', q⟩ := Post.opt (p H' W' g r)
        rw [zs] at e'; cases e'
        exact q H' W' (Grow.refl _ _) r J hJ
      rcases seqD_of zs with zl | ⟨_, zt⟩
      · refine .inl ⟨H0, Γ, w, W, wr, s, ?_⟩
        rw [z]; intro H' W' g r v c
        obtain ⟨a, vs, e, rp, q, k⟩ := c.sqL r zl
        exact ⟨a, e, ⟨vs, q⟩, get H' W' g r _ fun i w2 H2 W2 g2 r2 => at_list r2 (k w2 H2 W2 g2 r2) (Reps.le g2.le _ _ rp)⟩
      · refine .inr ⟨H0, Γ, w, W, wr, s, ?_⟩
        rw [z]; intro H' W' g r v c
        obtain ⟨a, vs, e, rp, q, k⟩ := c.sqT r zt
        exact ⟨a, e, ⟨vs, q⟩, get H' W' g r _ fun i w2 H2 W2 g2 r2 => at_tup r2 (k w2 H2 W2 g2.le r2) (Reps.le g2.le _ _ rp)⟩⟩
def iEnumT (K : PySem.W.Frag) (ta : TA) : TI := fun σ H R => ta σ H fun vs H1 => ∃ a xs, vs = [.ref a] ∧ SqT K H1 a xs ∧ R (IteT K a) H1
theorem pi_enumT {ta : TA} (hg : Gl X "enumerate") (hm : X.mg "enumerate" = none) (ha : PA X [e] ta) (hs : starEach [e] X.env = [(false, eval e X.env)] := by rfl) :
    PI X (.Tuple elts kk tpos) (.Call (.Name "enumerate" p) [e] [] pos) (iEnumT X.K ta) := by
  constructor
  intro pins s σ H R I h
  refine Call_ (ld_blt I hg hm boot_enumerate (PyProof.Rows.callWith_type1 (thn (ha.run pos pins s σ H _ I h) fun us s1 hus => ?_) hs rfl))
  obtain ⟨vs, H1, I1, r1, a, xs, ex, hq, q⟩ := hus
  subst ex
  cases r1 with
  | cons r rr =>
    cases rr
    cases r
    obtain ⟨its, rv, p', hz⟩ := I1.tuple hq
    have tp : s1.heap.IsTuple a its.toArray := p'
    have hal : a < s1.heap.objs.size := by
      obtain ⟨_, q, _⟩ := tp
      exact Heap.lt_size q
    refine dl_enum_tuple tp fun h' he hit hsz hk => wpAny_pyIter_enum he ?_
    have I2 : Inv X pins σ H1 { s1 with heap := h' } := I1.kept (t' := s1.toks) hk
    refine ⟨s1.heap.objs.size + 1, [s1.heap.objs.size + 1, s1.heap.objs.size], _, _, H1, rfl, I2, turn_enumT a (s1.heap.objs.size + 1) s1.heap.objs.size, ⟨⟨.none, he⟩, hit, Nat.succ_ne_self _, Nat.ne_of_lt hal, fun z => Nat.lt_irrefl a (Nat.lt_of_lt_of_le hal (Nat.le_trans (Nat.le_succ _) (Nat.le_of_eq z)))⟩, fun b hb => ?_, q⟩
    have hle : s1.heap.objs.size ≤ b := by
      rcases (show b = s1.heap.objs.size + 1 ∨ b = s1.heap.objs.size by simpa using hb) with z | z
      · rw [z]; exact Nat.le_add_right _ _
      · rw [z]; exact Nat.le_refl _
    exact I1.fpOk hle (I1.hok.fresh hle)
/-- one argument -/
theorem eArg_p (h : DP X Wx e f) (hs : starEach (e :: []) X.env = (false, eval e X.env) :: starEach [] X.env := by rfl) : PA X [e] (fun σ H Q => tP X.K X.mg Wx f σ H fun v H' => Q [v] H') := pa_imp (pa_cons h.pe pa_nil hs) fun σ H Q ⟨H0, Γ, w, W, wr, s, p⟩ => ⟨H0, Γ, w, W, wr, s, p⟩
theorem eArg_f (h : DF X Wx e f) (hs : starEach (e :: []) X.env = (false, eval e X.env) :: starEach [] X.env := by rfl) : PA X [e] (fun σ H Q => tF X.K X.mg Wx f σ H fun v H' => Q [v] H') := pa_imp (pa_cons h.pe pa_nil hs) fun σ H Q ⟨H0, Γ, w, W, wr, s, p⟩ => ⟨H0, Γ, w, W, wr, s, p⟩
theorem dip_enum (hg : Gl X "enumerate") (hm : X.mg "enumerate" = none) (h : DP X Wx e f) (hs : starEach [e] X.env = [(false, eval e X.env)] := by rfl) : DIP X Wx (.Tuple elts kk tpos) (.Call (.Name "enumerate" p) [e] [] pos) (eEnum f) := ⟨pi_imp (pi_or' (pi_enum hg hm (eArg_p h hs) hs) (pi_enumT hg hm (eArg_p h hs) hs)) fun σ H R ⟨H0, Γ, w, W, wr, s, p⟩ => by
  have p := Post.bind p
  cases z : f Γ w with
  | stuck => rw [z] at p; exact p.elim
  | exc e w1 => rw [z] at p; exact .inl ⟨H0, Γ, w, W, wr, s, by rw [z]; exact p⟩
  | ok d w1 =>
    rw [z] at p
    cases zs : seqD d with
    | none =>
      refine .inl ⟨H0, Γ, w, W, wr, s, ?_⟩
      rw [z]; intro H' W' g r v c
      obtain ⟨ds', e', q⟩ := Post.opt (p H' W' g r)
      rw [zs] at e'; cases e'
    | some ds =>
      have get : ∀ H' W', Grow W H W' H' → WR X.K X.mg w1 H' W' → ∀ J, ItP X.K X.mg J (enumD ds) W' H' → R J H' := fun H' W' g r J hJ => by
        obtain ⟨ds', e', q⟩ := Post.opt (p H' W' g r)
        rw [zs] at e'; cases e'
        exact q H' W' (Grow.refl _ _) r J hJ
      rcases seqD_of zs with zl | ⟨_, zt⟩
      · refine .inl ⟨H0, Γ, w, W, wr, s, ?_⟩
        rw [z]; intro H' W' g r v c
        obtain ⟨a, vs, e, rp, q, k⟩ := c.sqL r zl
        exact ⟨a, vs, by rw [e], q, get H' W' g r _ fun i w2 H2 W2 g2 r2 => at_enum r2 (k w2 H2 W2 g2 r2) (Reps.le g2.le _ _ rp)⟩
      · refine .inr ⟨H0, Γ, w, W, wr, s, ?_⟩
        rw [z]; intro H' W' g r v c
        obtain ⟨a, vs, e, rp, q, k⟩ := c.sqT r zt
        exact ⟨a, vs, by rw [e], q, get H' W' g r _ fun i w2 H2 W2 g2 r2 => at_enumT r2 (k w2 H2 W2 g2.le r2) (Reps.le g2.le _ _ rp)⟩⟩
theorem di_enum (hg : Gl X "enumerate") (hm : X.mg "enumerate" = none) (h : DF X Wx e f) (hs : starEach [e] X.env = [(false, eval e X.env)] := by rfl) : DIF X Wx (.Tuple elts kk tpos) (.Call (.Name "enumerate" p) [e] [] pos) (eEnum f) := ⟨pi_imp (pi_or' (pi_enum hg hm (eArg_f h hs) hs) (pi_enumT hg hm (eArg_f h hs) hs)) fun σ H R ⟨H0, Γ, w, W, wr, s, p⟩ => by
  have p := Post.bind p
  cases z : f Γ w with
  | stuck => rw [z] at p; exact p.elim
  | exc e w1 => rw [z] at p; exact .inl ⟨H0, Γ, w, W, wr, s, by rw [z]; exact p⟩
  | ok d w1 =>
    rw [z] at p
    cases zs : seqD d with
    | none =>
      refine .inl ⟨H0, Γ, w, W, wr, s, ?_⟩
      rw [z]; intro H' W' g r v c
      obtain ⟨ds', e', q⟩ := Post.opt (p H' W' g r)
      rw [zs] at e'; cases e'
    | some ds =>
      have get : ∀ H' W', Grow W H W' H' → WR X.K X.mg w1 H' W' → ∀ J, ItF X.K X.mg J (enumD ds) W' → R J H' := fun H' W' g r J hJ => by
        obtain ⟨ds', e', q⟩ := Post.opt (p H' W' g r)
        rw [zs] at e'; cases e'
        exact q H' W' (Grow.refl _ _) r J hJ
      rcases seqD_of zs with zl | ⟨_, zt⟩
      · refine .inl ⟨H0, Γ, w, W, wr, s, ?_⟩
        rw [z]; intro H' W' g r v c
        obtain ⟨a, vs, e, rp, q, k⟩ := c.sqL r zl
        exact ⟨a, vs, by rw [e], q, get H' W' g r _ fun i w2 H2 W2 g2 r2 => at_enum r2 (k w2 H2 W2 g2 r2) (Reps.le g2 _ _ rp)⟩
      · refine .inr ⟨H0, Γ, w, W, wr, s, ?_⟩
        rw [z]; intro H' W' g r v c
        obtain ⟨a, vs, e, rp, q, k⟩ := c.sqT r zt
        exact ⟨a, vs, by rw [e], q, get H' W' g r _ fun i w2 H2 W2 g2 r2 => at_enumT r2 (k w2 H2 W2 g2 r2) (Reps.le g2 _ _ rp)⟩⟩
/-- two arguments -/
theorem eArg_p2 (h : DP X Wx e f) (h2 : DP X Wx e2 g) (hs : starEach (e :: [e2]) X.env = (false, eval e X.env) :: starEach [e2] X.env := by rfl) (hs2 : starEach (e2 :: []) X.env = (false, eval e2 X.env) :: starEach [] X.env := by rfl) :
    PA X [e, e2] (fun σ H Q => tP X.K X.mg Wx f σ H fun v H' => tP X.K X.mg Wx g σ H' fun v2 H2 => Q [v, v2] H2) := pa_imp (pa_cons h.pe (pa_cons h2.pe pa_nil hs2) hs) fun σ H Q ⟨H0, Γ, w, W, wr, s, p⟩ => ⟨H0, Γ, w, W, wr, s, p⟩
theorem eArg_f2 (h : DF X Wx e f) (h2 : DF X Wx e2 g) (hs : starEach (e :: [e2]) X.env = (false, eval e X.env) :: starEach [e2] X.env := by rfl) (hs2 : starEach (e2 :: []) X.env = (false, eval e2 X.env) :: starEach [] X.env := by rfl) :
    PA X [e, e2] (fun σ H Q => tF X.K X.mg Wx f σ H fun v H' => tF X.K X.mg Wx g σ H' fun v2 H2 => Q [v, v2] H2) := pa_imp (pa_cons h.pe (pa_cons h2.pe pa_nil hs2) hs) fun σ H Q ⟨H0, Γ, w, W, wr, s, p⟩ => ⟨H0, Γ, w, W, wr, s, p⟩
theorem eArg_f3 (h : DF X Wx e f) (h2 : DF X Wx e2 g) (h3 : DF X Wx e3 k) (hs : starEach (e :: [e2, e3]) X.env = (false, eval e X.env) :: starEach [e2, e3] X.env := by rfl) (hs2 : starEach (e2 :: [e3]) X.env = (false, eval e2 X.env) :: starEach [e3] X.env := by rfl) (hs3 : starEach (e3 :: []) X.env = (false, eval e3 X.env) :: starEach [] X.env := by rfl) :
    PA X [e, e2, e3] (fun σ H Q => tF X.K X.mg Wx f σ H fun v H' => tF X.K X.mg Wx g σ H' fun v2 H2 => tF X.K X.mg Wx k σ H2 fun v3 H3 => Q [v, v2, v3] H3) := pa_imp (pa_cons h.pe (pa_cons h2.pe (pa_cons h3.pe pa_nil hs3) hs2) hs) fun σ H Q ⟨H0, Γ, w, W, wr, s, p⟩ => ⟨H0, Γ, w, W, wr, s, p⟩
theorem both_of {d e : D} {q : List D × List D} (h : both d e = some q) : (lsD d = some q.1 ∧ lsD e = some q.2) ∨ (tpD d = some q.1 ∧ tpD e = some q.2) := by
  cases d <;> cases e <;> first | (cases h; exact .inl ⟨rfl, rfl⟩) | (cases h; exact .inr ⟨rfl, rfl⟩) | cases h
theorem iZipA_imp {K : PySem.W.Frag} {t t' : TA} (i : ∀ σ H Q, t' σ H Q → t σ H Q) (σ : L2.St) (H : Hp) (R : It → Hp → Prop) (h : RZ.iZipA K t' σ H R) : RZ.iZipA K t σ H R := i σ H _ h
theorem dip_zip (hg : Gl X "zip") (hm : X.mg "zip" = none) (h : DP X Wx e f) (h2 : DP X Wx e2 g) (hs : starEach [e, e2] X.env = (false, eval e X.env) :: starEach [e2] X.env := by rfl) (hs2 : starEach (e2 :: []) X.env = (false, eval e2 X.env) :: starEach [] X.env := by rfl) (hpl : (backTo pos (starEach [e2] X.env)).any (·.1) = false := by rfl) :
    DIP X Wx (.Tuple elts kk tpos) (.Call (.Name "zip" p) [e, e2] [] pos) (eZip f g) := ⟨pi_imp (RZ.pi_zipA hg hm (eArg_p2 h h2 hs hs2) hs hpl) fun σ H R ⟨H0, Γ, w, W, wr, s, p⟩ => by
  refine ⟨H0, Γ, w, W, wr, s, (Post.bind p).mono fun d1 w1 H1 W1 g1 r1 p1 v1 c1 => ?_⟩
  refine ⟨H0, Γ, w1, W1, r1, s.grow g1, (Post.bind p1).mono fun d2 w2 H2 W2 g2 r2 p2 v2 c2 => ?_⟩
  obtain ⟨ds, z, q⟩ := Post.opt p2
  have q := q H2 W2 (Grow.refl _ _) r2
  cases zb : both d1 d2 with
  | none => rw [zb] at z; cases z
  | some ab =>
    rw [zb] at z
    cases z
    have c1 := c1.grow g2
    rcases both_of zb with ⟨z1, z2⟩ | ⟨z1, z2⟩
    · obtain ⟨a, vs, e, rp, qa, ka⟩ := c1.sqL r2 z1
      obtain ⟨b, us, e', rp', qb, kb⟩ := c2.sqL r2 z2
      exact ⟨a, b, vs, us, by rw [e, e'], .inl ⟨qa, qb, q _ fun i w3 H3 W3 g3 r3 => at_zip r3 (ka w3 H3 W3 g3 r3) (kb w3 H3 W3 g3 r3) (Reps.le g3.le _ _ rp) (Reps.le g3.le _ _ rp')⟩⟩
    · obtain ⟨a, vs, e, rp, qa, ka⟩ := c1.sqT r2 z1
      obtain ⟨b, us, e', rp', qb, kb⟩ := c2.sqT r2 z2
      exact ⟨a, b, vs, us, by rw [e, e'], .inr ⟨qa, qb, q _ fun i w3 H3 W3 g3 r3 => at_zipT r3 (ka w3 H3 W3 g3.le r3) (kb w3 H3 W3 g3.le r3) (Reps.le g3.le _ _ rp) (Reps.le g3.le _ _ rp')⟩⟩⟩
theorem di_zip (hg : Gl X "zip") (hm : X.mg "zip" = none) (h : DF X Wx e f) (h2 : DF X Wx e2 g) (hs : starEach [e, e2] X.env = (false, eval e X.env) :: starEach [e2] X.env := by rfl) (hs2 : starEach (e2 :: []) X.env = (false, eval e2 X.env) :: starEach [] X.env := by rfl) (hpl : (backTo pos (starEach [e2] X.env)).any (·.1) = false := by rfl) :
    DIF X Wx (.Tuple elts kk tpos) (.Call (.Name "zip" p) [e, e2] [] pos) (eZip f g) := ⟨pi_imp (RZ.pi_zipA hg hm (eArg_f2 h h2 hs hs2) hs hpl) fun σ H R ⟨H0, Γ, w, W, wr, s, p⟩ => by
  refine ⟨H0, Γ, w, W, wr, s, (Post.bind p).mono fun d1 w1 H1 W1 g1 r1 p1 v1 c1 => ?_⟩
  refine ⟨H0, Γ, w1, W1, r1, s.grow g1, (Post.bind p1).mono fun d2 w2 H2 W2 g2 r2 p2 v2 c2 => ?_⟩
  obtain ⟨ds, z, q⟩ := Post.opt p2
  have q := q H2 W2 (Grow.refl _ _) r2
  cases zb : both d1 d2 with
  | none => rw [zb] at z; cases z
  | some ab =>
    rw [zb] at z
    cases z
    have c1 := Rep.le g2.le _ _ c1
    rcases both_of zb with ⟨z1, z2⟩ | ⟨z1, z2⟩
    · obtain ⟨a, vs, e, rp, qa, ka⟩ := c1.sqL r2 z1
      obtain ⟨b, us, e', rp', qb, kb⟩ := c2.sqL r2 z2
      exact ⟨a, b, vs, us, by rw [e, e'], .inl ⟨qa, qb, q _ fun i w3 H3 W3 g3 r3 => at_zip r3 (ka w3 H3 W3 g3 r3) (kb w3 H3 W3 g3 r3) (Reps.le g3 _ _ rp) (Reps.le g3 _ _ rp')⟩⟩
    · obtain ⟨a, vs, e, rp, qa, ka⟩ := c1.sqT r2 z1
      obtain ⟨b, us, e', rp', qb, kb⟩ := c2.sqT r2 z2
      exact ⟨a, b, vs, us, by rw [e, e'], .inr ⟨qa, qb, q _ fun i w3 H3 W3 g3 r3 => at_zipT r3 (ka w3 H3 W3 g3 r3) (kb w3 H3 W3 g3 r3) (Reps.le g3 _ _ rp) (Reps.le g3 _ _ rp')⟩⟩⟩
theorem of_in62 {i : Int} (h : in62 i = true) : -(2 ^ 62) ≤ i ∧ i < 2 ^ 62 := of_decide_eq_true h
theorem di_range1 (hg : Gl X "range") (hm : X.mg "range" = none) (h : DF X Wx e f) (hs : starEach [e] X.env = [(false, eval e X.env)] := by rfl) : DIF X Wx tg (.Call (.Name "range" p) [e] [] pos) (eRg1 f) := ⟨pi_imp (pi_range1 hg hm (eArg_f h hs) hs) fun σ H R ⟨H0, Γ, w, W, wr, s, p⟩ => by
  refine ⟨H0, Γ, w, W, wr, s, (Post.bind p).mono fun d1 w1 H1 W1 g1 r1 p1 v1 c1 => ?_⟩
  obtain ⟨ds, z, q⟩ := Post.opt p1
  have q := q H1 W1 (Grow.refl _ _) r1
  cases d1 with
  | int j =>
    have z : (if in62 j = true then some (rangeD 0 j.toNat) else none) = some ds := z
    rw [Rep] at c1
    split at z
    · rename_i hj
      cases z
      exact ⟨j, by rw [c1], (of_in62 hj).1, (of_in62 hj).2, q _ fun i w2 H2 W2 g2 r2 => at_range r2⟩
    · cases z
  | _ => cases z⟩
theorem di_range2 (hg : Gl X "range") (hm : X.mg "range" = none) (h : DF X Wx e f) (h2 : DF X Wx e2 g) (hs : starEach [e, e2] X.env = (false, eval e X.env) :: starEach [e2] X.env := by rfl) (hs2 : starEach (e2 :: []) X.env = (false, eval e2 X.env) :: starEach [] X.env := by rfl) :
    DIF X Wx tg (.Call (.Name "range" p) [e, e2] [] pos) (eRg2 f g) := ⟨pi_imp (pi_range2 hg hm (eArg_f2 h h2 hs hs2) (by rw [hs, hs2]; rfl) hs2) fun σ H R ⟨H0, Γ, w, W, wr, s, p⟩ => by
  refine ⟨H0, Γ, w, W, wr, s, (Post.bind p).mono fun d1 w1 H1 W1 g1 r1 p1 v1 c1 => ?_⟩
  refine ⟨H0, Γ, w1, W1, r1, s.grow g1, (Post.bind p1).mono fun d2 w2 H2 W2 g2 r2 p2 v2 c2 => ?_⟩
  obtain ⟨ds, z, q⟩ := Post.opt p2
  have q := q H2 W2 (Grow.refl _ _) r2
  unfold rg2 at z
  split at z
  · rename_i i j
    rw [Rep] at c1 c2
    split at z
    · rename_i hj
      rw [Bool.and_eq_true] at hj
      cases z
      exact ⟨i, j, by rw [c1, c2], ⟨(of_in62 hj.1).1, (of_in62 hj.1).2, (of_in62 hj.2).1, (of_in62 hj.2).2⟩, q _ fun i w2 H2 W2 g2 r2 => at_range r2⟩
    · cases z
  · cases z⟩
theorem di_range3 (hg : Gl X "range") (hm : X.mg "range" = none) (h : DF X Wx e f) (h2 : DF X Wx e2 g) (h3 : DF X Wx e3 k) (hs : starEach (e :: [e2, e3]) X.env = (false, eval e X.env) :: starEach [e2, e3] X.env := by rfl) (hs2 : starEach (e2 :: [e3]) X.env = (false, eval e2 X.env) :: starEach [e3] X.env := by rfl) (hs3 : starEach (e3 :: []) X.env = (false, eval e3 X.env) :: starEach [] X.env := by rfl) (hpl : (backTo pos (starEach [e2, e3] X.env)).any (·.1) = false := by rfl) :
    DIF X Wx tg (.Call (.Name "range" p) [e, e2, e3] [] pos) (eRg3 f g k) := ⟨pi_imp (pi_range3 hg hm (eArg_f3 h h2 h3 hs hs2 hs3) hs hpl) fun σ H R ⟨H0, Γ, w, W, wr, s, p⟩ => by
  refine ⟨H0, Γ, w, W, wr, s, (Post.bind p).mono fun d1 w1 H1 W1 g1 r1 p1 v1 c1 => ?_⟩
  refine ⟨H0, Γ, w1, W1, r1, s.grow g1, (Post.bind p1).mono fun d2 w2 H2 W2 g2 r2 p2 v2 c2 => ?_⟩
  refine ⟨H0, Γ, w2, W2, r2, (s.grow g1).grow g2, (Post.bind p2).mono fun d3 w3 H3 W3 g3 r3 p3 v3 c3 => ?_⟩
  obtain ⟨ds, z, q⟩ := Post.opt p3
  have q := q H3 W3 (Grow.refl _ _) r3
  unfold rg3 at z
  split at z
  · rename_i i j c
    rw [Rep] at c1 c2 c3
    split at z
    · rename_i hj
      rw [Bool.and_eq_true, Bool.and_eq_true] at hj
      cases z
      have hc : c = -1 := of_decide_eq_true hj.2
      subst hc
      exact ⟨i, j, -1, (i - j).toNat, by rw [c1, c2, c3], RgC.neg (of_in62 hj.1.1).1 (of_in62 hj.1.1).2 (of_in62 hj.1.2).1 (of_in62 hj.1.2).2, q _ fun i w2 H2 W2 g2 r2 => at_rangeC r2⟩
    · cases z
  · cases z⟩
theorem di_items (h : DF X Wx e f) (hbase : attributeBase e "items" X.env (eval e X.env) = eval e X.env := by rfl) (hline : (apos.endLine == cpos.line) = true := by rfl) :
    DIF X Wx (.Tuple elts kk tpos) (.Call (.Attribute e "items" apos) [] [] cpos) (eItems f) := ⟨pi_imp (pi_items h.pe hbase hline) fun σ H R ⟨H0, Γ, w, W, wr, s, p⟩ => by
  refine ⟨H0, Γ, w, W, wr, s, (Post.bind p).mono fun d1 w1 H1 W1 g1 r1 p1 v1 c1 => ?_⟩
  obtain ⟨ds, z, q⟩ := Post.opt p1
  have q := q H1 W1 (Grow.refl _ _) r1
  cases d1 with
  | dck kvs =>
    cases z
    rw [Rep] at c1
    obtain ⟨a, ob, e, kk, qa, rp⟩ := c1
    exact ⟨a, ob, kk, e, r1.sub _ _ qa, q _ fun i w2 H2 W2 l r2 => at_items r2 (r2.sub _ _ (l.f _ _ qa)) (RepK.le l _ _ rp)⟩
  | _ => cases z⟩
theorem di_values (h : DF X Wx e f) (hbase : attributeBase e "values" X.env (eval e X.env) = eval e X.env := by rfl) (hline : (apos.endLine == cpos.line) = true := by rfl) :
    DIF X Wx tg (.Call (.Attribute e "values" apos) [] [] cpos) (eVals f) := ⟨pi_imp (pi_values h.pe hbase hline) fun σ H R ⟨H0, Γ, w, W, wr, s, p⟩ => by
  refine ⟨H0, Γ, w, W, wr, s, (Post.bind p).mono fun d1 w1 H1 W1 g1 r1 p1 v1 c1 => ?_⟩
  obtain ⟨ds, z, q⟩ := Post.opt p1
  have q := q H1 W1 (Grow.refl _ _) r1
  cases d1 with
  | dck kvs =>
    cases z
    rw [Rep] at c1
    obtain ⟨a, ob, e, kk, qa, rp⟩ := c1
    exact ⟨a, ob, kk, e, r1.sub _ _ qa, q _ fun i w2 H2 W2 l r2 => at_vals r2 (r2.sub _ _ (l.f _ _ qa)) (RepK.le l _ _ rp)⟩
  | _ => cases z⟩
end
end DL

set_option Elab.async false
set_option linter.all false
set_option maxRecDepth 100000
set_option maxHeartbeats 4000000
namespace DL
open PySem PySem.Spec PyProof.Rows L2

/-! ### subscripts -/
def isDk : D → Bool
  | .dck _ => true
  | .dct _ => true
  | _ => false
def dIxS : D → D → Option D
  | .str z, .int i => if z.length ≤ sizeLine then (atI z.cps.toList i).map fun c => .str ⟨#[c]⟩ else none
  | d, .int i => (seqD d).bind fun ds => atI ds i
  | _, _ => none
def dIx (w : Wd) (d i : D) : Option D := match d with
  | .cell n => (w[n]?).bind fun ds => dIxS (.lst ds) i
  | .dck kvs => (dGet (.dck kvs) i).bind id
  | .dct kvs => (dGet (.dct kvs) i).bind id
  | d => dIxS d i
def eIx (f g : EX D) : EX D := eBind f fun a => eBind g fun b => fun _ w => M.ofOption (dIx w a b) w
section
variable {K : PySem.W.Frag} {mg : Str → Option Value} {W W' : Wst} {H : Hp} {w : Wd}
theorem Reps.atI {ds : List D} {vs : List V} {i : Int} {d : D} (h : Reps K mg W ds vs) (e : atI ds i = some d) : ∃ v, L2.atI vs i = some v ∧ Rep K mg W d v := by
  unfold L2.atI at e ⊢
  rw [h.length] at e
  cases z : ixN vs.length i with
  | none => rw [z] at e; cases e
  | some j =>
    rw [z] at e
    obtain ⟨v, h1, h2⟩ := h.get (i := j) e
    exact ⟨v, h1, h2⟩
theorem dIxS_rep (wr : WR K mg w H W) {d i r : D} {x y : V} (c : Con K mg W H d x) (ci : Con K mg W H i y) (e : dIxS d i = some r) {Q : VK} (q : ∀ v, Rep K mg W r v → Q v H) : rIx K x y H Q := by
  unfold dIxS at e
  split at e
  · rename_i z i
    split at e
    · rename_i hl
      cases zc : atI z.cps.toList i with
      | none => rw [zc] at e; cases e
      | some k =>
        rw [zc] at e
        cases e
        exact .inr (.inr ⟨z, i, k, c.str, ci.int, hl, zc, q _ (by rw [Rep])⟩)
    · cases e
  · rename_i i _
    cases zs : seqD d with
    | none => rw [zs] at e; cases e
    | some ds =>
      rw [zs] at e
      have e : atI ds i = some r := e
      rcases seqD_of zs with zl | ⟨_, zt⟩
      · obtain ⟨a, vs, ex, rp, qa, _⟩ := c.sqL wr zl
        obtain ⟨v, h1, h2⟩ := rp.atI e
        exact .inl ⟨a, vs, i, v, ex, ci.int, qa, h1, q v h2⟩
      · obtain ⟨a, vs, ex, rp, qa, _⟩ := c.sqT wr zt
        obtain ⟨v, h1, h2⟩ := rp.atI e
        exact .inr (.inl ⟨a, vs, i, v, ex, ci.int, qa, h1, q v h2⟩)
  · cases e
end
section
variable {X : Cx} {Wx : WX'} {e a b c : Expr} {ea eb ec : EX D} {ta tb tc : EX Bool} {pos : Pos}
theorem df_ix (hu : X.A.units + 1 < cLine) (ha : DP X Wx a ea) (hb : DP X Wx b eb) (hs : PlainIx b := by intro _ _; rfl) : DF X Wx (.Subscript a b pos) (eIx ea eb) := ⟨pe_imp (pe_or' (pe_ix ix_seq ha.pe hb.pe hs) (pe_dgetX hu ha.pe hb.pe hs)) fun σ H Q ⟨H0, Γ, w, W, wr, s, p⟩ => by
  have p := Post.bind p
  cases z : ea Γ w with
  | stuck => rw [z] at p; exact p.elim
  | exc e w1 => rw [z] at p; exact .inl ⟨H0, Γ, w, W, wr, s, by rw [z]; exact p⟩
  | ok d w1 =>
    rw [z] at p
    by_cases hd : isDk d = true
    · refine .inr ⟨H0, Γ, w, W, wr, s, ?_⟩
      rw [z]; intro H1 W1 g1 r1 v1 c1
      refine ⟨H0, Γ, w1, W1, r1, s.grow g1, (Post.bind (p H1 W1 g1 r1)).mono fun d2 w2 H2 W2 g2 r2 p2 v2 c2 => ?_⟩
      obtain ⟨r, zr, q⟩ := Post.opt p2
      have c1 := c1.grow g2
      have q := q H2 W2 (Grow.refl _ _) r2
      have key : (dGet d d2).bind id = some r := by
        cases d with
        | dck _ => exact zr
        | dct _ => exact zr
        | _ => cases hd
      cases zg : dGet d d2 with
      | none => rw [zg] at key; cases key
      | some o =>
        rw [zg] at key
        have ho : o = some r := key
        subst ho
        obtain ⟨a, o', ex, dg, ro⟩ := Con.dget r2 c1 c2 zg
        cases o' with
        | none => exact ro.elim
        | some v => exact ⟨a, v, ex, dg, q v ro⟩
    · refine .inl ⟨H0, Γ, w, W, wr, s, ?_⟩
      rw [z]; intro H1 W1 g1 r1 v1 c1
      refine ⟨H0, Γ, w1, W1, r1, s.grow g1, (Post.bind (p H1 W1 g1 r1)).mono fun d2 w2 H2 W2 g2 r2 p2 v2 c2 => ?_⟩
      obtain ⟨r, zr, q⟩ := Post.opt p2
      have c1 := c1.grow g2
      have q := q H2 W2 (Grow.refl _ _) r2
      cases d with
      | cell n =>
        have zr : (w2[n]?).bind (fun ds => dIxS (.lst ds) d2) = some r := zr
        cases zw : w2[n]? with
        | none => rw [zw] at zr; cases zr
        | some ds =>
          rw [zw] at zr
          obtain ⟨a, ex, ea⟩ := c1.cell
          obtain ⟨vs, h1, h2⟩ := r2.cell n a ds ex zw
          have zr : dIxS (.lst ds) d2 = some r := zr
          cases d2 with
          | int i =>
            obtain ⟨v, h3, h4⟩ := h2.atI (zr : atI ds i = some r)
            exact .inl ⟨a, vs, i, v, ea, c2.int, SqL.of h1, h3, q v h4⟩
          | _ => cases zr
      | dck _ => exact absurd rfl hd
      | dct _ => exact absurd rfl hd
      | _ => exact dIxS_rep r2 c1 c2 zr q⟩
end

/-! ### slices -/
/-- a bound -/
def eOpt (f : EX D) : EX (Option Int) := eBind f fun d _ => M.ofOption (match d with
  | .int i => some (some i)
  | _ => none)
def cutD (ds : List D) (lo hi : Option Int) : List D := (ds.drop (HT.sIx ds.length 0 lo)).take (HT.sIx ds.length ds.length hi - HT.sIx ds.length 0 lo)
def dSlT : D → Option Int → Option Int → Option D
  | .tup ds, lo, hi => some (.tup (cutD ds lo hi))
  | _, _, _ => none
def dSlL : D → Option Int → Option Int → Option D
  | .lst ds, lo, hi => some (.lst (cutD ds lo hi))
  | .fls ds, lo, hi => some (.lst (cutD ds lo hi))
  | _, _, _ => none
def tOI (K : PySem.W.Frag) (mg : Str → Option Value) (Wx : WX') (f : EX (Option Int)) : TO := fun σ H Q => ∃ H0 Γ w W, WR K mg w H W ∧ SR K mg H0 Γ σ H W ∧
  Post K mg (fun c o H => Wx c o σ H) W H (f Γ w) fun o w' H' W' => Q o H'
structure DO (X : Cx) (Wx : WX') (e : Option Expr) (f : EX (Option Int)) : Prop where
  po : PO X e (tOI X.K X.mg Wx f)
theorem po_imp {X : Cx} {e : Option Expr} {t t' : TO} (h : PO X e t) (i : ∀ σ H Q, t' σ H Q → t σ H Q) : PO X e t' := ⟨fun pins s σ H Q I q => h.run pins s σ H Q I (i σ H Q q)⟩
def eSl (h : D → Option Int → Option Int → Option D) (f : EX D) (l u : EX (Option Int)) : EX D := eBind f fun d => eBind l fun lo => eBind u fun hi => fun _ => M.ofOption (h d lo hi)
def dSl (d : D) (lo hi : Option Int) : Option D := (dSlT d lo hi).or (dSlL d lo hi)
section
variable {K : PySem.W.Frag} {mg : Str → Option Value} {W W' : Wst} {H : Hp} {w : Wd}
theorem Reps.cut {ds : List D} {vs : List V} (lo hi : Option Int) (h : Reps K mg W ds vs) : Reps K mg W (cutD ds lo hi) (cutV vs lo hi) := by
  unfold cutD cutV
  rw [h.length]
  exact (h.drop _).take _
end
section
variable {X : Cx} {Wx : WX'} {e a b c : Expr} {lo hi : Option Expr} {ea eb ec : EX D} {el eh : EX (Option Int)} {pos p2 : Pos}
theorem do_none : DO X Wx none (ePure none) := ⟨po_imp po_none fun σ H Q ⟨H0, Γ, w, W, wr, s, p⟩ => p H W (Grow.refl _ _) wr⟩
theorem do_some (h : DP X Wx e ea) : DO X Wx (some e) (eOpt ea) := ⟨po_imp (po_some h.pe) fun σ H Q ⟨H0, Γ, w, W, wr, s, p⟩ => by
  refine ⟨H0, Γ, w, W, wr, s, (Post.bind p).mono fun d w1 H1 W1 g1 r1 p1 v c => ?_⟩
  obtain ⟨o, z, q⟩ := Post.opt p1
  split at z
  · cases z; exact ⟨_, c.int, q H1 W1 (Grow.refl _ _) r1⟩
  · cases z⟩
/-- a slice of a list: a new one -/
theorem dn_slL (ha : DP X Wx a ea) (hl : DO X Wx lo el) (hh : DO X Wx hi eh) : DN X Wx (.Subscript a (.Slice lo hi none p2) pos) (eSl dSlL ea el eh) := ⟨pe_imp (pe_slice sl_list ha.pe hl.po hh.po) fun σ H Q ⟨H0, Γ, w, W, wr, s, p⟩ => by
  refine ⟨H0, Γ, w, W, wr, s, (Post.bind p).mono fun d w1 H1 W1 g1 r1 p1 v c => ?_⟩
  refine ⟨H0, Γ, w1, W1, r1, s.grow g1, (Post.bind p1).mono fun lo w2 H2 W2 g2 r2 p2 => ?_⟩
  refine ⟨H0, Γ, w2, W2, r2, (s.grow g1).grow g2, (Post.bind p2).mono fun hi w3 H3 W3 g3 r3 p3 => ?_⟩
  obtain ⟨o, z, q⟩ := Post.opt p3
  have c := c.grow (g2.trans g3)
  have go : ∀ ds, lsD d = some ds → o = .lst (cutD ds lo hi) → rSlL X.K v lo hi H3 Q := fun ds e eo => by
    obtain ⟨a, vs, ex, rp, qa, _⟩ := c.sqL r3 e
    refine ⟨a, vs, ex, qa, fun p hp => ?_⟩
    obtain ⟨f0, n0⟩ := r3.fresh hp r3.len
    subst eo
    exact q _ W3 (Grow.lay hp) (r3.lay hp) p _ upd_same (rp.cut lo hi) f0 n0 (newAt ((g1.trans g2).trans g3) r3 hp)
  cases d with
  | lst ds => cases z; exact go ds rfl rfl
  | fls ds => cases z; exact go ds rfl rfl
  | _ => cases z⟩
theorem df_sl (ha : DP X Wx a ea) (hl : DO X Wx lo el) (hh : DO X Wx hi eh) : DF X Wx (.Subscript a (.Slice lo hi none p2) pos) (eSl dSl ea el eh) := ⟨pe_imp (pe_slice (sl_tupM.or sl_list) ha.pe hl.po hh.po) fun σ H Q ⟨H0, Γ, w, W, wr, s, p⟩ => by
  refine ⟨H0, Γ, w, W, wr, s, (Post.bind p).mono fun d w1 H1 W1 g1 r1 p1 v c => ?_⟩
  refine ⟨H0, Γ, w1, W1, r1, s.grow g1, (Post.bind p1).mono fun lo w2 H2 W2 g2 r2 p2 => ?_⟩
  refine ⟨H0, Γ, w2, W2, r2, (s.grow g1).grow g2, (Post.bind p2).mono fun hi w3 H3 W3 g3 r3 p3 => ?_⟩
  obtain ⟨o, z, q⟩ := Post.opt p3
  have c := c.grow (g2.trans g3)
  have go : ∀ ds, lsD d = some ds → o = .lst (cutD ds lo hi) → rSlL X.K v lo hi H3 Q := fun ds e eo => by
    obtain ⟨a, vs, ex, rp, qa, _⟩ := c.sqL r3 e
    refine ⟨a, vs, ex, qa, fun p hp => ?_⟩
    obtain ⟨f0, n0⟩ := r3.fresh hp r3.len
    subst eo
    exact q _ (W3.put p (.lst (cutV vs lo hi))) ((Grow.lay hp).freeze f0 hp) ((r3.lay hp).freeze upd_same f0 n0) _ (RepO.rep (d := .lst (cutD ds lo hi)) (o := .lst _) { cls := .none, data := .fields #[] } (rp.cut lo hi) f0)
  cases d with
  | lst ds => cases z; exact .inr (go ds rfl rfl)
  | fls ds => cases z; exact .inr (go ds rfl rfl)
  | tup ds =>
    cases z
    refine .inl ?_
    have cc := c
    obtain ⟨a, vs, ex, qa, rp⟩ := c.tup r3
    refine ⟨a, vs, ex, qa.sq, fun hw => ?_, fun hw p ob hp hcl hdi => ?_⟩
    · refine q _ _ (Grow.refl _ _) r3 _ ?_
      have : cutD ds lo hi = ds := by
        unfold cutD
        rw [rp.length, hw.1, hw.2, List.drop_zero, Nat.sub_zero, ← rp.length, List.take_length]
      rw [this]
      rcases cc with cc | ⟨_, _, _, _, zz, _⟩
      · rw [← ex]; exact cc
      · exact zz.elim
    · obtain ⟨f0, n0⟩ := r3.fresh hp r3.len
      refine q _ (W3.put p (.frz ob (.tup (cutV vs lo hi)))) ((Grow.lay hp).freeze f0 hp) ((r3.lay hp).freeze upd_same f0 n0) _ ?_
      rw [Rep]
      exact ⟨p, _, rfl, ⟨ob, upd_same, hcl, hdi⟩, Reps.le (Wle.put f0) _ _ (rp.cut lo hi)⟩
  | _ => cases z⟩

def dRev : D → Option D
  | .lst ds => some (.lst ds.reverse)
  | .fls ds => some (.lst ds.reverse)
  | _ => none
def dNeg : D → Option D
  | .int i => some (.int (-i))
  | _ => none
def eUn (h : D → Option D) (f : EX D) : EX D := eBind f fun a => fun _ => M.ofOption (h a)
theorem dn_rev {k : Nat} {q1 q2 q3 : Pos} (ha : DP X Wx a ea) : DN X Wx (.Subscript a (.Slice none none (some (.UnaryOp .USub (.Constant (.int 1) k q1) q2)) q3) pos) (eUn dRev ea) := ⟨pe_imp (pe_revL ha.pe) fun σ H Q ⟨H0, Γ, w, W, wr, s, p⟩ => by
  refine ⟨H0, Γ, w, W, wr, s, (Post.bind p).mono fun d w1 H1 W1 g1 r1 p1 v c => ?_⟩
  obtain ⟨o, z, q⟩ := Post.opt p1
  have go : ∀ ds, lsD d = some ds → o = .lst ds.reverse → ∃ a xs, v = .ref a ∧ SqL X.K H1 a xs ∧ ∀ p, H1 p = none → Q (.ref p) (upd H1 p (.lst xs.reverse)) := fun ds e eo => by
    obtain ⟨a, vs, ex, rp, qa, _⟩ := c.sqL r1 e
    refine ⟨a, vs, ex, qa, fun p hp => ?_⟩
    obtain ⟨f0, n0⟩ := r1.fresh hp r1.len
    subst eo
    exact q _ W1 (Grow.lay hp) (r1.lay hp) p _ upd_same rp.reverse f0 n0 (newAt g1 r1 hp)
  cases d with
  | lst ds => cases z; exact go ds rfl rfl
  | fls ds => cases z; exact go ds rfl rfl
  | _ => cases z⟩
theorem df_neg (ha : DP X Wx a ea) : DF X Wx (.UnaryOp .USub a pos) (eUn dNeg ea) := ⟨pe_imp (pe_un un_neg ha.pe) fun σ H Q ⟨H0, Γ, w, W, wr, s, p⟩ => by
  refine ⟨H0, Γ, w, W, wr, s, (Post.bind p).mono fun d w1 H1 W1 g1 r1 p1 v c => ?_⟩
  obtain ⟨o, z, q⟩ := Post.opt p1
  cases d with
  | int i => cases z; exact ⟨i, c.int, q _ _ (Grow.refl _ _) r1 _ (by rw [Rep])⟩
  | _ => cases z⟩
end
end DL

set_option Elab.async false
set_option linter.all false
set_option maxRecDepth 100000
set_option maxHeartbeats 4000000
namespace DL
open PySem PySem.Spec PyProof.Rows L2

/-! ### in, not in -/
theorem shaped_lt (ds : List PyData) : SeqAt.shaped (.tuple ds) = SeqAt.shaped (.list ds) := by unfold SeqAt.shaped; rfl
section
variable {X : Cx}
/-- x in a list or tuple of data; in a tuple -/
def rInS (K : PySem.W.Frag) (neg : Bool) : R2 := fun x y H Q => ∃ d ds, Dp K H x d ∧ (Dp K H y (.list ds) ∨ Dp K H y (.tuple ds)) ∧ SeqAt.shaped d = true ∧ SeqAt.shaped (.list ds) = true ∧ Q (.bl (if neg = true then !ds.any fun z => PyData.eqv z d else ds.any fun z => PyData.eqv z d)) H
theorem room_inT {A : Around} {d : PyData} {ds : List PyData} (h : SeqAt.shaped d = true) (hu : A.units + 65 < cLine) : A.units + 1 + min (PyData.depthAll ds) d.depth < cLine := by
  have h1 := SeqAt.depth_of_shaped h
  have h2 : min (PyData.depthAll ds) d.depth ≤ d.depth := Nat.min_le_right _ _
  omega
theorem op_inS (hu : X.A.units + 65 < cLine) : OpR X (compareOp .In) (rInS X.K false) := fun pins s σ H x y v u Q I rx ry ⟨d, ds, hd, he, sd, se, q⟩ => by
  obtain ⟨as, ra⟩ := Dp.reads I d x v hd rx
  have lay := SeqAt.canLay_of_shaped se
  rcases he with he | he
  · obtain ⟨bs, rb⟩ := Dp.reads I _ y u he ry
    exact SeqAt.in_list_reads rb ra lay (SeqAt.canLay_of_shaped sd) (room_inT sd hu) ⟨.bl _, H, I, rfl, q⟩
  · obtain ⟨bs, rb⟩ := Dp.reads I _ y u he ry
    exact SeqAt.in_tuple_reads rb ra lay (SeqAt.canLay_of_shaped sd) (room_inT sd hu) ⟨.bl _, H, I, rfl, q⟩
theorem op_notInS (hu : X.A.units + 65 < cLine) : OpR X (compareOp .NotIn) (rInS X.K true) := fun pins s σ H x y v u Q I rx ry ⟨d, ds, hd, he, sd, se, q⟩ => by
  obtain ⟨as, ra⟩ := Dp.reads I d x v hd rx
  have lay := SeqAt.canLay_of_shaped se
  rcases he with he | he
  · obtain ⟨bs, rb⟩ := Dp.reads I _ y u he ry
    exact SeqAt.notIn_list_reads rb ra lay (SeqAt.canLay_of_shaped sd) (room_inT sd hu) ⟨.bl _, H, I, rfl, q⟩
  · obtain ⟨bs, rb⟩ := Dp.reads I _ y u he ry
    exact SeqAt.notIn_tuple_reads rb ra lay (SeqAt.canLay_of_shaped sd) (room_inT sd hu) ⟨.bl _, H, I, rfl, q⟩
end
def dInS (x y : D) : Option Bool := (seqD y).bind fun ds => if SeqAt.shaped x.toPy && SeqAt.shaped (.list (toPys ds)) then some ((toPys ds).any fun z => PyData.eqv z x.toPy) else none
def dIn (x y : D) : Option Bool := if isDk y = true then (dGet y x).map Option.isSome else dInS x y
def eIn (f g : EX D) : EX Bool := eBind f fun x => eBind g fun y => fun _ => M.ofOption (dIn x y)
def eNotIn (f g : EX D) : EX Bool := eBind f fun x => eBind g fun y => fun _ => M.ofOption ((dIn x y).map (!·))
section
variable {K : PySem.W.Frag} {mg : Str → Option Value} {W W' : Wst} {H : Hp} {w : Wd}
theorem toPys_list {y : D} {ds : List D} (h : seqD y = some ds) : y.toPy = .list (toPys ds) ∨ y.toPy = .tuple (toPys ds) := by
  cases y with
  | tup _ => cases h; exact .inr rfl
  | ftp _ => cases h; exact .inr rfl
  | lst _ => cases h; exact .inl rfl
  | fls _ => cases h; exact .inl rfl
  | _ => cases h
theorem dInS_rep (wr : WR K mg w H W) {x y : D} {v u : V} (c : Con K mg W H x v) (c2 : Con K mg W H y u) {b : Bool} (e : dInS x y = some b) {neg : Bool} {Q : VK} (q : Q (.bl (if neg = true then !b else b)) H) : rInS K neg v u H Q := by
  unfold dInS at e
  cases z : seqD y with
  | none => rw [z] at e; cases e
  | some ds =>
    rw [z] at e
    have e : (if SeqAt.shaped x.toPy && SeqAt.shaped (.list (toPys ds)) then some ((toPys ds).any fun z => PyData.eqv z x.toPy) else none) = some b := e
    split at e
    · rename_i hh
      rw [Bool.and_eq_true] at hh
      cases e
      refine ⟨_, toPys ds, c.dp wr (SeqAt.canLay_of_shaped hh.1), ?_, hh.1, hh.2, q⟩
      rcases toPys_list z with t | t
      · have := c2.dp wr (by rw [t]; exact SeqAt.canLay_of_shaped hh.2)
        rw [t] at this; exact .inl this
      · have := c2.dp wr (by rw [t]; exact SeqAt.canLay_of_shaped ((shaped_lt _).trans hh.2))
        rw [t] at this; exact .inr this
    · cases e
end
theorem Post.monoE {α : Type} {K : PySem.W.Frag} {mg : Str → Option Value} {Wx : Value → Option Addr → Hp → Prop} {W : Wst} {H : Hp} {r : R α} {P P' : α → Wd → Hp → Wst → Prop} (h : Post K mg Wx W H r P) (f : ∀ a w' H' W', r = .ok a w' → Grow W H W' H' → WR K mg w' H' W' → P a w' H' W' → P' a w' H' W') : Post K mg Wx W H r P' := by
  unfold Post at h ⊢
  split at h
  · exact fun H' W' g r => f _ _ H' W' rfl g r (h H' W' g r)
  · exact h
  · exact h
section
variable {X : Cx} {Wx : WX'} {e a b c : Expr} {ea eb ec : EX D} {ta tb tc : EX Bool} {pos : Pos}
theorem in_run {neg : Bool} {σ : L2.St} {H : Hp} {Q : VK} (hw : ∃ H0 Γ w W, WR X.K X.mg w H W ∧ SR X.K X.mg H0 Γ σ H W ∧ Post X.K X.mg (fun c o H => Wx c o σ H) W H ((eBind ea fun x => eBind eb fun y => fun _ => M.ofOption ((dIn x y).map fun b => if neg = true then !b else b)) Γ w) fun b w' H' W' => Q (.bl b) H') :
    tOp (rInS X.K neg) (tP X.K X.mg Wx ea) (tP X.K X.mg Wx eb) σ H Q ∨ (tP X.K X.mg Wx ea) σ H fun y H1 => (tP X.K X.mg Wx eb) σ H1 fun x H2 => ∃ a o, x = .ref a ∧ DGx H2 a y o ∧ Q (.bl (if neg = true then !o.isSome else o.isSome)) H2 := by
  obtain ⟨H0, Γ, w, W, wr, s, p⟩ := hw
  by_cases hk : ∃ d1 w1 d2 w2, ea Γ w = .ok d1 w1 ∧ eb Γ w1 = .ok d2 w2 ∧ isDk d2 = true
  · obtain ⟨d1, w1, d2, w2, z1, z2, hd⟩ := hk
    refine .inr ⟨H0, Γ, w, W, wr, s, (Post.bind p).monoE fun d1' w1' H1 W1 y1 g1 r1 p1 v1 c1 => ?_⟩
    rw [z1] at y1; cases y1
    refine ⟨H0, Γ, w1, W1, r1, s.grow g1, (Post.bind p1).monoE fun d2' w2' H2 W2 y2 g2 r2 p2 v2 c2 => ?_⟩
    rw [z2] at y2; cases y2
    obtain ⟨b, zb, q⟩ := Post.opt p2
    have q := q H2 W2 (Grow.refl _ _) r2
    unfold dIn at zb
    rw [if_pos hd] at zb
    cases zg : dGet d2 d1 with
    | none => rw [zg] at zb; cases zb
    | some o =>
      rw [zg] at zb
      cases zb
      obtain ⟨a, o', ex, dg, ro⟩ := Con.dget r2 c2 (c1.grow g2) zg
      refine ⟨a, o', ex, dg, ?_⟩
      have : o'.isSome = o.isSome := by
        cases o <;> cases o' <;> first | rfl | exact ro.elim
      rw [this]; exact q
  · refine .inl ⟨H0, Γ, w, W, wr, s, (Post.bind p).monoE fun d1 w1 H1 W1 y1 g1 r1 p1 v1 c1 => ?_⟩
    refine ⟨H0, Γ, w1, W1, r1, s.grow g1, (Post.bind p1).monoE fun d2 w2 H2 W2 y2 g2 r2 p2 v2 c2 => ?_⟩
    obtain ⟨b, zb, q⟩ := Post.opt p2
    have q := q H2 W2 (Grow.refl _ _) r2
    unfold dIn at zb
    rw [if_neg (fun hd => hk ⟨d1, w1, d2, w2, y1, y2, hd⟩)] at zb
    cases zg : dInS d1 d2 with
    | none => rw [zg] at zb; cases zb
    | some o =>
      rw [zg] at zb
      cases zb
      exact dInS_rep r2 (c1.grow g2) c2 zg q
theorem db_in (hu : X.A.units + 65 < cLine) (ha : DP X Wx a ea) (hb : DP X Wx b eb) (hm : behindInMarks .In b = false) : DB X Wx (.Compare a [.In] [b] pos) (eIn ea eb) := .mk' (pe_imp (pe_or' (pe_cmpR (op_inS hu) ha.pe hb.pe hm) (pe_cmp (pc_dinX (by omega) ha.pe hb.pe) hm)) fun σ H Q hw => in_run (neg := false) (by
  have e : ∀ o : Option Bool, o.map (fun b => if false = true then !b else b) = o := fun o => by cases o <;> rfl
  simp only [e]
  exact hw))
theorem db_notIn (hu : X.A.units + 65 < cLine) (ha : DP X Wx a ea) (hb : DP X Wx b eb) (hm : behindInMarks .NotIn b = false) : DB X Wx (.Compare a [.NotIn] [b] pos) (eNotIn ea eb) := .mk' (pe_imp (pe_or' (pe_cmpR (op_notInS hu) ha.pe hb.pe hm) (pe_cmp (pc_dnotinX (by omega) ha.pe hb.pe) hm)) fun σ H Q hw => in_run (neg := true) (by
  have e : ∀ o : Option Bool, o.map (fun b => if true = true then !b else b) = o.map (!·) := fun o => by cases o <;> rfl
  simp only [e]
  exact hw))
theorem dt_in (hu : X.A.units + 65 < cLine) (ha : DP X Wx a ea) (hb : DP X Wx b eb) (hm : behindInMarks .In b = false) : DT X Wx (.Compare a [.In] [b] pos) (eIn ea eb) := ⟨pt_imp (pt_or' (pt_cmpR (op_inS hu) ha.pe hb.pe hm) (pt_cmp (pc_dinX (by omega) ha.pe hb.pe) hm)) fun σ H Q ⟨H0, Γ, w, W, wr, s, p⟩ => in_run (Q := fun v H => ∃ b, v = .bl b ∧ Q b H) (neg := false) (by
  have e : ∀ o : Option Bool, o.map (fun b => if false = true then !b else b) = o := fun o => by cases o <;> rfl
  simp only [e]
  exact ⟨H0, Γ, w, W, wr, s, p.mono fun b w' H' W' _ _ q => ⟨b, rfl, q⟩⟩)⟩
theorem dt_notIn (hu : X.A.units + 65 < cLine) (ha : DP X Wx a ea) (hb : DP X Wx b eb) (hm : behindInMarks .NotIn b = false) : DT X Wx (.Compare a [.NotIn] [b] pos) (eNotIn ea eb) := ⟨pt_imp (pt_or' (pt_cmpR (op_notInS hu) ha.pe hb.pe hm) (pt_cmp (pc_dnotinX (by omega) ha.pe hb.pe) hm)) fun σ H Q ⟨H0, Γ, w, W, wr, s, p⟩ => in_run (Q := fun v H => ∃ b, v = .bl b ∧ Q b H) (neg := true) (by
  have e : ∀ o : Option Bool, o.map (fun b => if true = true then !b else b) = o.map (!·) := fun o => by cases o <;> rfl
  simp only [e]
  exact ⟨H0, Γ, w, W, wr, s, p.mono fun b w' H' W' _ _ q => ⟨b, rfl, q⟩⟩)⟩
end
end DL

set_option Elab.async false
set_option linter.all false
set_option maxRecDepth 100000
set_option maxHeartbeats 4000000
namespace DL
open PySem PySem.Spec PyProof.Rows L2

/-! ### order of data -/
/-- data that may be compared by order -/
def ordOk (a b : PyData) : Bool := PySem.W.alike a b && SeqAt.shaped a && SeqAt.shaped b && (match a with
  | .none => false
  | _ => true)
theorem ordOk_of {a b : PyData} (h : ordOk a b = true) : PySem.W.alike a b = true ∧ SeqAt.shaped a = true ∧ SeqAt.shaped b = true ∧ a ≠ .none := by
  unfold ordOk at h
  rw [Bool.and_eq_true, Bool.and_eq_true, Bool.and_eq_true] at h
  refine ⟨h.1.1.1, h.1.1.2, h.1.2, fun z => ?_⟩
  subst z
  exact absurd h.2 (by decide)
def rOrd (K : PySem.W.Frag) (f : PyData → PyData → Bool) : R2 := fun x y H Q => ∃ d e, Dp K H x d ∧ Dp K H y e ∧ ordOk d e = true ∧ Q (.bl (f d e)) H
section
variable {X : Cx}
theorem op_ltDD (hu : X.A.units + 64 < cLine) : OpR X (compareOp .Lt) (rOrd X.K PySem.W.dataLt) := fun pins s σ H x y v u Q I rx ry ⟨d, e, hd, he, ok, q⟩ => by
  obtain ⟨as, ra⟩ := Dp.reads I d x v hd rx
  obtain ⟨bs, rb⟩ := Dp.reads I e y u he ry
  obtain ⟨h1, h2, h3, h4⟩ := ordOk_of ok
  exact PySem.W.lt_data ra rb h1 h4 (SeqAt.room_of_shaped h2 hu) ⟨.bl _, H, I, rfl, q⟩
theorem op_gtDD (hu : X.A.units + 64 < cLine) : OpR X (compareOp .Gt) (rOrd X.K fun d e => PySem.W.dataLt e d) := fun pins s σ H x y v u Q I rx ry ⟨d, e, hd, he, ok, q⟩ => by
  obtain ⟨as, ra⟩ := Dp.reads I d x v hd rx
  obtain ⟨bs, rb⟩ := Dp.reads I e y u he ry
  obtain ⟨h1, h2, h3, h4⟩ := ordOk_of ok
  exact PySem.W.gt_data ra rb h1 h4 (SeqAt.room_of_shaped h2 hu) ⟨.bl _, H, I, rfl, q⟩
theorem op_leDD (hu : X.A.units + 64 < cLine) : OpR X (compareOp .LtE) (rOrd X.K fun d e => !PySem.W.dataLt e d) := fun pins s σ H x y v u Q I rx ry ⟨d, e, hd, he, ok, q⟩ => by
  obtain ⟨as, ra⟩ := Dp.reads I d x v hd rx
  obtain ⟨bs, rb⟩ := Dp.reads I e y u he ry
  obtain ⟨h1, h2, h3, h4⟩ := ordOk_of ok
  exact PySem.W.le_data ra rb h1 h4 (SeqAt.room_of_shaped h2 hu) ⟨.bl _, H, I, rfl, q⟩
theorem op_geDD (hu : X.A.units + 64 < cLine) : OpR X (compareOp .GtE) (rOrd X.K fun d e => !PySem.W.dataLt d e) := fun pins s σ H x y v u Q I rx ry ⟨d, e, hd, he, ok, q⟩ => by
  obtain ⟨as, ra⟩ := Dp.reads I d x v hd rx
  obtain ⟨bs, rb⟩ := Dp.reads I e y u he ry
  obtain ⟨h1, h2, h3, h4⟩ := ordOk_of ok
  exact PySem.W.ge_data ra rb h1 h4 (SeqAt.room_of_shaped h2 hu) ⟨.bl _, H, I, rfl, q⟩
end
def oCmp (f : PyData → PyData → Bool) (a b : D) : Option D := if ordOk a.toPy b.toPy = true then some (.bl (f a.toPy b.toPy)) else none
def oLt (a b : D) : Option D := (dLt a b).or (oCmp PySem.W.dataLt a b)
def oGt (a b : D) : Option D := (dGt a b).or (oCmp (fun d e => PySem.W.dataLt e d) a b)
def oLe (a b : D) : Option D := (dLe a b).or (oCmp (fun d e => !PySem.W.dataLt e d) a b)
def oGe (a b : D) : Option D := (dGe a b).or (oCmp (fun d e => !PySem.W.dataLt d e) a b)
section
variable {X : Cx}
theorem dop_ord {F2 : Value → Value → Sem Value} {f : PyData → PyData → Bool} (ho : OpR X F2 (rOrd X.K f)) : DOp X F2 (oCmp f) := by
  refine ⟨_, ho, fun w H W d1 d2 d x y Q wr c1 c2 e q => ?_⟩
  unfold oCmp at e
  split at e
  · rename_i hh
    cases e
    obtain ⟨h1, h2, h3, h4⟩ := ordOk_of hh
    exact ⟨_, _, c1.dp wr (SeqAt.canLay_of_shaped h2), c2.dp wr (SeqAt.canLay_of_shaped h3), hh, q _ _ _ (Grow.refl W H) wr (by rw [Rep])⟩
  · cases e
theorem dop_olt (hu : X.A.units + 64 < cLine) : DOp X (compareOp .Lt) oLt := dop_lt.or (dop_ord (op_ltDD hu))
theorem dop_ogt (hu : X.A.units + 64 < cLine) : DOp X (compareOp .Gt) oGt := dop_gt.or (dop_ord (op_gtDD hu))
theorem dop_ole (hu : X.A.units + 64 < cLine) : DOp X (compareOp .LtE) oLe := dop_le.or (dop_ord (op_leDD hu))
theorem dop_oge (hu : X.A.units + 64 < cLine) : DOp X (compareOp .GtE) oGe := dop_ge.or (dop_ord (op_geDD hu))
end

/-! ### built-in functions on data -/
def DCl (X : Cx) (f : Value) (h : List D → Option D) : Prop := ∃ r : List V → Hp → VK → Prop, CallR X f r ∧
  ∀ (w : Wd) (H : Hp) (W : Wst) (ds : List D) (d : D) (vs : List V) (Q : VK), WR X.K X.mg w H W → Paired (Con X.K X.mg W H) ds vs → h ds = some d →
    (∀ v H' W', Grow W H W' H' → WR X.K X.mg w H' W' → Rep X.K X.mg W' d v → Q v H') → r vs H Q
/-- .. that make a new thing -/
def DClN (X : Cx) (f : Value) (h : List D → Option D) : Prop := ∃ r : List V → Hp → VK → Prop, CallR X f r ∧
  ∀ (w : Wd) (H : Hp) (W : Wst) (ds : List D) (d : D) (vs : List V) (Q : VK), WR X.K X.mg w H W → Paired (Con X.K X.mg W H) ds vs → h ds = some d →
    (∀ p o, H p = none → RepO X.K X.mg W d o → Q (.ref p) (upd H p o)) → r vs H Q
def eCl (h : List D → Option D) (el : EX (List D)) : EX D := eBind el fun ds _ => M.ofOption (h ds)
theorem DCl.or {X : Cx} {f : Value} {h1 h2 : List D → Option D} (k1 : DCl X f h1) (k2 : DCl X f h2) : DCl X f (fun a => (h1 a).or (h2 a)) := by
  obtain ⟨r1, o1, k1⟩ := k1
  obtain ⟨r2, o2, k2⟩ := k2
  refine ⟨_, o1.or o2, fun w H W ds d vs Q wr c e q => ?_⟩
  dsimp only at e
  cases z : h1 ds with
  | some d' =>
    rw [z] at e
    have e' : d' = d := by simpa using e
    subst e'
    exact .inl (k1 w H W ds d' vs Q wr c z q)
  | none =>
    rw [z] at e
    exact .inr (k2 w H W ds d vs Q wr c (by simpa using e) q)
theorem DClN.or {X : Cx} {f : Value} {h1 h2 : List D → Option D} (k1 : DClN X f h1) (k2 : DClN X f h2) : DClN X f (fun a => (h1 a).or (h2 a)) := by
  obtain ⟨r1, o1, k1⟩ := k1
  obtain ⟨r2, o2, k2⟩ := k2
  refine ⟨_, o1.or o2, fun w H W ds d vs Q wr c e q => ?_⟩
  dsimp only at e
  cases z : h1 ds with
  | some d' =>
    rw [z] at e
    have e' : d' = d := by simpa using e
    subst e'
    exact .inl (k1 w H W ds d' vs Q wr c z q)
  | none =>
    rw [z] at e
    exact .inr (k2 w H W ds d vs Q wr c (by simpa using e) q)
section
variable {X : Cx} {Wx : WX'} {x : Str} {p pos : Pos} {e : Expr} {es : List Expr} {el : EX (List D)} {id T : String} {h : List D → Option D}
theorem cl_run {r : List V → Hp → VK → Prop} (k : ∀ (w : Wd) (H : Hp) (W : Wst) (ds : List D) (d : D) (vs : List V) (Q : VK), WR X.K X.mg w H W → Paired (Con X.K X.mg W H) ds vs → h ds = some d →
    (∀ v H' W', Grow W H W' H' → WR X.K X.mg w H' W' → Rep X.K X.mg W' d v → Q v H') → r vs H Q) {σ : L2.St} {H : Hp} {Q : VK} (hw : tF X.K X.mg Wx (eCl h el) σ H Q) : tCB r (tPs X.K X.mg Wx el) σ H Q := by
  obtain ⟨H0, Γ, w, W, wr, s, p⟩ := hw
  refine ⟨H0, Γ, w, W, wr, s, (Post.bind p).mono fun ds w1 H1 W1 g1 r1 p1 vs c => ?_⟩
  obtain ⟨d, z, q⟩ := Post.opt p1
  exact k w1 H1 W1 ds d vs Q r1 c z fun v H' W' g' r' q' => q H' W' g' r' v q'
theorem cln_run {r : List V → Hp → VK → Prop} (k : ∀ (w : Wd) (H : Hp) (W : Wst) (ds : List D) (d : D) (vs : List V) (Q : VK), WR X.K X.mg w H W → Paired (Con X.K X.mg W H) ds vs → h ds = some d →
    (∀ p o, H p = none → RepO X.K X.mg W d o → Q (.ref p) (upd H p o)) → r vs H Q) {σ : L2.St} {H : Hp} {Q : VK} (hw : tN X.K X.mg Wx (eCl h el) σ H Q) : tCB r (tPs X.K X.mg Wx el) σ H Q := by
  obtain ⟨H0, Γ, w, W, wr, s, p⟩ := hw
  refine ⟨H0, Γ, w, W, wr, s, (Post.bind p).mono fun ds w1 H1 W1 g1 r1 p1 vs c => ?_⟩
  obtain ⟨d, z, q⟩ := Post.opt p1
  refine k w1 H1 W1 ds d vs Q r1 c z fun p o hp ro => ?_
  obtain ⟨f0, n0⟩ := r1.fresh hp r1.len
  exact q _ W1 (Grow.lay hp) (r1.lay hp) p o upd_same ro f0 n0 (newAt g1 r1 hp)
theorem df_callB (k : DCl X (.builtin id) h) (hg : Gl X x) (hm : X.mg x = none) (hv : bootBuiltins x = some (.builtin id)) (ha : DPs X Wx (e :: es) el) (hn : x ≠ "__name__" := by decide) (hdb : (x == ("__debug__" : Str)) = false := by decide)
    (he : starEach (e :: es) X.env = (false, eval e X.env) :: starEach es X.env := by rfl) (hpl : (backTo pos (starEach es X.env)).any (·.1) = false := by rfl) : DF X Wx (.Call (.Name x p) (e :: es) [] pos) (eCl h el) := by
  obtain ⟨r, hc, k⟩ := k
  exact ⟨pe_imp (pe_callB hc hg hm hv ha.pa hn hdb he hpl) fun σ H Q hw => cl_run k hw⟩
theorem df_callTy (k : DCl X (.type T) h) (hg : Gl X x) (hm : X.mg x = none) (hv : bootBuiltins x = some (.type T)) (ha : DPs X Wx (e :: es) el) (hn : x ≠ "__name__" := by decide) (hdb : (x == ("__debug__" : Str)) = false := by decide)
    (he : starEach (e :: es) X.env = (false, eval e X.env) :: starEach es X.env := by rfl) (hpl : (backTo pos (starEach es X.env)).any (·.1) = false := by rfl) : DF X Wx (.Call (.Name x p) (e :: es) [] pos) (eCl h el) := by
  obtain ⟨r, hc, k⟩ := k
  exact ⟨pe_imp (pe_callTy hc hg hm hv ha.pa hn hdb he hpl) fun σ H Q hw => cl_run k hw⟩
theorem dn_callB (k : DClN X (.builtin id) h) (hg : Gl X x) (hm : X.mg x = none) (hv : bootBuiltins x = some (.builtin id)) (ha : DPs X Wx (e :: es) el) (hn : x ≠ "__name__" := by decide) (hdb : (x == ("__debug__" : Str)) = false := by decide)
    (he : starEach (e :: es) X.env = (false, eval e X.env) :: starEach es X.env := by rfl) (hpl : (backTo pos (starEach es X.env)).any (·.1) = false := by rfl) : DN X Wx (.Call (.Name x p) (e :: es) [] pos) (eCl h el) := by
  obtain ⟨r, hc, k⟩ := k
  exact ⟨pe_imp (pe_callB hc hg hm hv ha.pa hn hdb he hpl) fun σ H Q hw => cln_run k hw⟩
theorem dn_callTy (k : DClN X (.type T) h) (hg : Gl X x) (hm : X.mg x = none) (hv : bootBuiltins x = some (.type T)) (ha : DPs X Wx (e :: es) el) (hn : x ≠ "__name__" := by decide) (hdb : (x == ("__debug__" : Str)) = false := by decide)
    (he : starEach (e :: es) X.env = (false, eval e X.env) :: starEach es X.env := by rfl) (hpl : (backTo pos (starEach es X.env)).any (·.1) = false := by rfl) : DN X Wx (.Call (.Name x p) (e :: es) [] pos) (eCl h el) := by
  obtain ⟨r, hc, k⟩ := k
  exact ⟨pe_imp (pe_callTy hc hg hm hv ha.pa hn hdb he hpl) fun σ H Q hw => cln_run k hw⟩
end
/-! len, abs, max, min of two, int, list, tuple, sum, any, all -/
section
variable {X : Cx}
theorem paired1 {α β : Type} {R : α → β → Prop} {a : α} {vs : List β} (h : Paired R [a] vs) : ∃ v, vs = [v] ∧ R a v := by
  cases h with
  | cons r t => cases t; exact ⟨_, rfl, r⟩
theorem paired2 {α β : Type} {R : α → β → Prop} {a b : α} {vs : List β} (h : Paired R [a, b] vs) : ∃ v u, vs = [v, u] ∧ R a v ∧ R b u := by
  cases h with
  | cons r t =>
    cases t with
    | cons r' t' => cases t'; exact ⟨_, _, rfl, r, r'⟩
def bLen : List D → Option D
  | [.str y] => if y.length ≤ sizeLine then some (.int y.length) else none
  | [.dck kvs] => some (.int kvs.length)
  | [.dct kvs] => some (.int kvs.length)
  | [d] => (seqD d).map fun ds => .int ds.length
  | _ => none
def bLenS : List D → Option D
  | [.str y] => if y.length ≤ sizeLine then some (.int y.length) else none
  | [d] => (seqD d).map fun ds => .int ds.length
  | _ => none
theorem dcl_lenS : DCl X (.builtin "len") bLenS := by
  refine ⟨_, call_len, fun w H W ds d vs Q wr c e q => ?_⟩
  unfold bLenS at e
  split at e
  · obtain ⟨v, rfl, cv⟩ := paired1 c
    split at e
    · rename_i hl
      cases e
      exact ⟨v, _, rfl, by rw [cv.str]; exact ⟨hl, rfl⟩, q _ _ _ (Grow.refl _ _) wr (by rw [Rep])⟩
    · cases e
  · rename_i d0 _
    obtain ⟨v, rfl, cv⟩ := paired1 c
    cases z : seqD d0 with
    | none => rw [z] at e; cases e
    | some ds =>
      rw [z] at e
      cases e
      refine ⟨v, _, rfl, ?_, q _ _ _ (Grow.refl _ _) wr (by rw [Rep])⟩
      rcases seqD_of z with zl | ⟨_, zt⟩
      · obtain ⟨a, us, ex, rp, qa, _⟩ := cv.sqL wr zl
        rw [ex]
        exact .inl ⟨us, qa, rp.length⟩
      · obtain ⟨a, us, ex, rp, qa, _⟩ := cv.sqT wr zt
        rw [ex]
        exact .inr ⟨us, qa, rp.length⟩
  · cases e
def bAbs : List D → Option D
  | [.int i] => some (.int (if i < 0 then -i else i))
  | _ => none
theorem dcl_abs : DCl X (.builtin "abs") bAbs := by
  refine ⟨_, call_abs, fun w H W ds d vs Q wr c e q => ?_⟩
  unfold bAbs at e
  split at e
  · obtain ⟨v, rfl, cv⟩ := paired1 c
    cases e
    exact ⟨_, by rw [cv.int], q _ _ _ (Grow.refl _ _) wr (by rw [Rep])⟩
  · cases e
def bMax2 : List D → Option D
  | [.int i, .int j] => some (.int (if j > i then j else i))
  | _ => none
def bMin2 : List D → Option D
  | [.int i, .int j] => some (.int (if j < i then j else i))
  | _ => none
theorem dcl_max2 (hc : X.calm = true) : DCl X (.builtin "max") bMax2 := by
  refine ⟨_, call_max2 hc, fun w H W ds d vs Q wr c e q => ?_⟩
  unfold bMax2 at e
  split at e
  · obtain ⟨v, u, rfl, cv, cu⟩ := paired2 c
    cases e
    exact ⟨_, _, by rw [cv.int, cu.int], q _ _ _ (Grow.refl _ _) wr (by rw [Rep])⟩
  · cases e
theorem dcl_min2 (hc : X.calm = true) : DCl X (.builtin "min") bMin2 := by
  refine ⟨_, call_min2 hc, fun w H W ds d vs Q wr c e q => ?_⟩
  unfold bMin2 at e
  split at e
  · obtain ⟨v, u, rfl, cv, cu⟩ := paired2 c
    cases e
    exact ⟨_, _, by rw [cv.int, cu.int], q _ _ _ (Grow.refl _ _) wr (by rw [Rep])⟩
  · cases e
def bInt : List D → Option D
  | [.int i] => some (.int i)
  | [.bl b] => some (.int (if b then 1 else 0))
  | _ => none
theorem dcl_int : DCl X (.type "int") bInt := by
  refine ⟨_, call_int1, fun w H W ds d vs Q wr c e q => ?_⟩
  unfold bInt at e
  split at e
  · obtain ⟨v, rfl, cv⟩ := paired1 c
    cases e
    exact .inl ⟨_, by rw [cv.int], q _ _ _ (Grow.refl _ _) wr (by rw [Rep])⟩
  · obtain ⟨v, rfl, cv⟩ := paired1 c
    cases e
    exact .inr ⟨_, by rw [cv.bl], q _ _ _ (Grow.refl _ _) wr (by rw [Rep])⟩
  · cases e
def bList : List D → Option D
  | [d] => (seqD d).map .lst
  | _ => none
theorem dcln_list : DClN X (.type "list") bList := by
  refine ⟨_, call_list_of, fun w H W ds d vs Q wr c e q => ?_⟩
  unfold bList at e
  split at e
  · rename_i d0
    obtain ⟨v, rfl, cv⟩ := paired1 c
    cases z : seqD d0 with
    | none => rw [z] at e; cases e
    | some ds =>
      rw [z] at e
      cases e
      rcases seqD_of z with zl | ⟨_, zt⟩
      · obtain ⟨a, us, ex, rp, qa, _⟩ := cv.sqL wr zl
        exact ⟨a, us, by rw [ex], .inl qa, fun l hl => q l (.lst us) hl rp⟩
      · obtain ⟨a, us, ex, rp, qa, _⟩ := cv.sqT wr zt
        exact ⟨a, us, by rw [ex], .inr qa, fun l hl => q l (.lst us) hl rp⟩
  · cases e
def bTuple : List D → Option D
  | [.lst ds] => some (.tup ds)
  | [.fls ds] => some (.tup ds)
  | [.tup ds] => some (.tup ds)
  | _ => none
theorem dcl_tuple : DCl X (.type "tuple") bTuple := by
  refine ⟨_, call_tupleM, fun w H W ds d vs Q wr c e q => ?_⟩
  have new : ∀ (a : Addr) (us : List V) (es : List D) (v : V), v = .ref a → SqL X.K H a us → Reps X.K X.mg W es us → (∀ v H' W', Grow W H W' H' → WR X.K X.mg w H' W' → Rep X.K X.mg W' (.tup es) v → Q v H') →
      ∃ p ys, [v] = [.ref p] ∧ ((SqL X.K H p ys ∧ newT H ys Q) ∨ (SqT X.K H p ys ∧ Q (.ref p) H)) := fun a us es v ex qa rp q => by
    refine ⟨a, us, by rw [ex], .inl ⟨qa, fun l ob hl hcl hdi => ?_⟩⟩
    obtain ⟨W3, g3, r3, c3⟩ := new_tupM wr hl hcl hdi rp
    exact q _ _ W3 g3 r3 c3
  unfold bTuple at e
  split at e
  · rename_i es
    obtain ⟨v, rfl, cv⟩ := paired1 c
    cases e
    obtain ⟨a, us, ex, rp, qa, _⟩ := cv.sqL (ds := es) wr rfl
    exact new a us es v ex qa rp q
  · rename_i es
    obtain ⟨v, rfl, cv⟩ := paired1 c
    cases e
    obtain ⟨a, us, ex, rp, qa, _⟩ := cv.sqL (ds := es) wr rfl
    exact new a us es v ex qa rp q
  · rename_i es
    obtain ⟨v, rfl, cv⟩ := paired1 c
    cases e
    have cv0 := cv
    obtain ⟨a, us, ex, rp, qa, _⟩ := cv.sqT (ds := es) wr rfl
    refine ⟨a, us, by rw [ex], .inr ⟨qa, q _ _ _ (Grow.refl _ _) wr ?_⟩⟩
    rcases cv0 with cc | ⟨_, _, _, _, zz, _⟩
    · rw [← ex]; exact cc
    · exact zz.elim
  · cases e
def intsD : List D → Option (List Int)
  | [] => some []
  | .int i :: r => (intsD r).map (i :: ·)
  | _ => none
theorem intsD_map : ∀ {ds : List D} {ns : List Int}, intsD ds = some ns → ds = ns.map D.int
  | [], ns, h => by cases h; rfl
  | d :: r, ns, h => by
    cases d with
    | int i =>
      have h : (intsD r).map (i :: ·) = some ns := h
      cases z : intsD r with
      | none => rw [z] at h; cases h
      | some ms =>
        rw [z] at h; cases h
        rw [intsD_map z]; rfl
    | _ => cases h
theorem Reps.toInts {K : PySem.W.Frag} {mg : Str → Option Value} {W : Wst} : ∀ {ns : List Int} {vs : List V}, Reps K mg W (ns.map D.int) vs → vs = ns.map V.int
  | [], vs, h => by rw [List.map_nil, Reps] at h; exact h
  | n :: ns, vs, h => by
    rw [List.map_cons, Reps] at h
    obtain ⟨v, r, e, q, t⟩ := h
    rw [Rep] at q
    rw [e, q, Reps.toInts t]; rfl
def bSum : List D → Option D
  | [d] => (seqD d).bind fun ds => (intsD ds).map fun ns => .int ns.sum
  | _ => none
/-- sum of a tuple of ints -/
def rSumT (K : PySem.W.Frag) : List V → Hp → VK → Prop := fun vs H Q => ∃ (a : Addr) (ns : List Int), vs = [V.ref a] ∧ SqT K H a (ns.map V.int) ∧ Q (.int ns.sum) H
end
end DL

set_option Elab.async false
set_option linter.all false
set_option maxRecDepth 100000
set_option maxHeartbeats 4000000
namespace DL
open PySem PySem.Spec PyProof.Rows L2

section
variable {X : Cx}
theorem cr_sumT (hc : X.calm = true) : CallR X (.builtin "sum") (rSumT X.K) := fun pins s σ H vs us Q I r ⟨a, ns, e, ht, q⟩ => by
  subst e
  obtain ⟨its, rv, p, hz⟩ := I.tuple ht
  rw [Vals.ref1 r]
  have tp : s.heap.IsTuple a its.toArray := p
  have hi := rv.ints
  obtain ⟨xs, e⟩ := hi.allInts.items
  have hn : numsOf (intItems xs).toList = ns := by rw [← e]; exact hi.numsOf
  rw [nums_intItems] at hn
  rw [e] at tp
  refine PySem.W.ktm_sumG (I.ok.hd hc) tp fun h' tk t' hk => ⟨.int _, H, I.kept hk, ⟨t', rfl⟩, ?_⟩
  rw [preSum_eq, List.take_of_length_le (by simp), hn]
  exact q
theorem dcl_sum (hc : X.calm = true) : DCl X (.builtin "sum") bSum := by
  refine ⟨_, (cr_sum hc).or (cr_sumT hc), fun w H W ds d vs Q wr c e q => ?_⟩
  unfold bSum at e
  split at e
  · rename_i d0
    obtain ⟨v, rfl, cv⟩ := paired1 c
    cases z : seqD d0 with
    | none => rw [z] at e; cases e
    | some ds =>
      rw [z] at e
      have e : (intsD ds).map (fun ns => D.int ns.sum) = some d := e
      cases zi : intsD ds with
      | none => rw [zi] at e; cases e
      | some ns =>
        rw [zi] at e
        cases e
        have em := intsD_map zi
        subst em
        have fin := q (.int ns.sum) H W (Grow.refl _ _) wr (by rw [Rep])
        rcases seqD_of z with zl | ⟨_, zt⟩
        · obtain ⟨a, us, ex, rp, qa, _⟩ := cv.sqL wr zl
          rw [rp.toInts] at qa
          exact .inl ⟨a, ns, by rw [ex], qa, fin⟩
        · obtain ⟨a, us, ex, rp, qa, _⟩ := cv.sqT wr zt
          rw [rp.toInts] at qa
          exact .inr ⟨a, ns, by rw [ex], qa, fin⟩
  · cases e
def blsD : List D → Option (List Bool)
  | [] => some []
  | .bl i :: r => (blsD r).map (i :: ·)
  | _ => none
theorem blsD_map : ∀ {ds : List D} {ns : List Bool}, blsD ds = some ns → ds = ns.map D.bl
  | [], ns, h => by cases h; rfl
  | d :: r, ns, h => by
    cases d with
    | bl i =>
      have h : (blsD r).map (i :: ·) = some ns := h
      cases z : blsD r with
      | none => rw [z] at h; cases h
      | some ms =>
        rw [z] at h; cases h
        rw [blsD_map z]; rfl
    | _ => cases h
theorem Reps.toBls {K : PySem.W.Frag} {mg : Str → Option Value} {W : Wst} : ∀ {ns : List Bool} {vs : List V}, Reps K mg W (ns.map D.bl) vs → vs = ns.map V.bl
  | [], vs, h => by rw [List.map_nil, Reps] at h; exact h
  | n :: ns, vs, h => by
    rw [List.map_cons, Reps] at h
    obtain ⟨v, r, e, q, t⟩ := h
    rw [Rep] at q
    rw [e, q, Reps.toBls t]; rfl
def bAll : List D → Option D
  | [d] => (lsD d).bind fun ds => (blsD ds).map fun bs => .bl (bs.all id)
  | _ => none
def bAny : List D → Option D
  | [d] => (lsD d).bind fun ds => (blsD ds).map fun bs => .bl (bs.any id)
  | _ => none
theorem dcl_all (hc : X.calm = true) : DCl X (.builtin "all") bAll := by
  refine ⟨_, cr_all hc, fun w H W ds d vs Q wr c e q => ?_⟩
  unfold bAll at e
  split at e
  · rename_i d0
    obtain ⟨v, rfl, cv⟩ := paired1 c
    cases z : lsD d0 with
    | none => rw [z] at e; cases e
    | some ds =>
      rw [z] at e
      have e : (blsD ds).map (fun ns => D.bl (ns.all id)) = some d := e
      cases zi : blsD ds with
      | none => rw [zi] at e; cases e
      | some ns =>
        rw [zi] at e
        cases e
        have em := blsD_map zi
        subst em
        obtain ⟨a, us, ex, rp, qa, _⟩ := cv.sqL wr z
        rw [rp.toBls] at qa
        exact ⟨a, ns, by rw [ex], qa, q _ H W (Grow.refl _ _) wr (by rw [Rep])⟩
  · cases e
theorem dcl_any (hc : X.calm = true) : DCl X (.builtin "any") bAny := by
  refine ⟨_, cr_any hc, fun w H W ds d vs Q wr c e q => ?_⟩
  unfold bAny at e
  split at e
  · rename_i d0
    obtain ⟨v, rfl, cv⟩ := paired1 c
    cases z : lsD d0 with
    | none => rw [z] at e; cases e
    | some ds =>
      rw [z] at e
      have e : (blsD ds).map (fun ns => D.bl (ns.any id)) = some d := e
      cases zi : blsD ds with
      | none => rw [zi] at e; cases e
      | some ns =>
        rw [zi] at e
        cases e
        have em := blsD_map zi
        subst em
        obtain ⟨a, us, ex, rp, qa, _⟩ := cv.sqL wr z
        rw [rp.toBls] at qa
        exact ⟨a, ns, by rw [ex], qa, q _ H W (Grow.refl _ _) wr (by rw [Rep])⟩
  · cases e
/-! max, min of a list or tuple of ints -/
def maxI (n : Int) (ns : List Int) : Int := ns.foldl max n
def minI (n : Int) (ns : List Int) : Int := ns.foldl min n
def bMax1 : List D → Option D
  | [d] => (seqD d).bind fun ds => match intsD ds with
    | some (n :: ns) => some (.int (maxI n ns))
    | _ => none
  | _ => none
def bMin1 : List D → Option D
  | [d] => (seqD d).bind fun ds => match intsD ds with
    | some (n :: ns) => some (.int (minI n ns))
    | _ => none
  | _ => none
def rMax1 (K : PySem.W.Frag) : List V → Hp → VK → Prop := fun vs H Q => ∃ (a : Addr) (n : Int) (ns : List Int), vs = [V.ref a] ∧ (SqL K H a ((n :: ns).map V.int) ∨ SqT K H a ((n :: ns).map V.int)) ∧ Q (.int (maxI n ns)) H
def rMin1 (K : PySem.W.Frag) : List V → Hp → VK → Prop := fun vs H Q => ∃ (a : Addr) (n : Int) (ns : List Int), vs = [V.ref a] ∧ (SqL K H a ((n :: ns).map V.int) ∨ SqT K H a ((n :: ns).map V.int)) ∧ Q (.int (minI n ns)) H
theorem readsInts {h : Heap} : ∀ {ns : List Int} {us : List Value}, IntsAre us ns → ReadsAll h us (ns.map PyData.int) []
  | [], us, i => by cases i; exact .nil
  | n :: ns, us, i => by
    cases i with
    | cons _ t0 i' =>
      have := ReadsAll.cons (as := []) (bs := []) (Reads.int (h := h) n t0) (readsInts i')
      exact this
theorem alikeInts (ns : List Int) : PySem.W.AlikeAll (ns.map PyData.int) := by
  refine ⟨fun d hd e he => ?_, fun d hd => ?_⟩
  · obtain ⟨i, _, rfl⟩ := List.mem_map.mp hd
    obtain ⟨j, _, rfl⟩ := List.mem_map.mp he
    simp only [PySem.W.alike]
  · obtain ⟨i, _, rfl⟩ := List.mem_map.mp hd
    intro z; cases z
theorem depthInts : ∀ (ns : List Int), PyData.depthAll (ns.map PyData.int) = 0
  | [] => rfl
  | n :: ns => by
    have := depthInts ns
    rw [List.map_cons, PyData.depthAll, this]; rfl
theorem read_int {h : Heap} {v : Value} {i : Int} {as : List Addr} (r : Reads h v (.int i) as) : RelV (.int i) v := by
  cases r
  exact ⟨_, rfl⟩
theorem cr_max1 (hc : X.calm = true) (hu : X.A.units + 1 < cLine) : CallR X (.builtin "max") (rMax1 X.K) := fun pins s σ H vs us Q I r ⟨a, n, ns, e, ht, q⟩ => by
  subst e
  rw [Vals.ref1 r]
  have room : X.A.units + 1 + PyData.depthAll ((PyData.int n) :: ns.map PyData.int) < cLine := by
    have := depthInts (n :: ns)
    rw [List.map_cons] at this
    omega
  rcases ht with ht | ht
  · obtain ⟨its, rv, p, hz⟩ := I.list ht
    refine PySem.W.max_list_data (I.ok.hd hc) p.isList (readsInts rv.ints) (alikeInts (n :: ns)) room fun i v h' tk bs _ rd hk => ⟨.int _, H, I.kept hk, ?_, q⟩
    rw [PySem.W.maxD_ints] at rd
    exact read_int rd
  · obtain ⟨its, rv, p, hz⟩ := I.tuple ht
    refine PySem.W.max_tuple_data (I.ok.hd hc) p (readsInts rv.ints) (alikeInts (n :: ns)) room fun i v h' tk bs _ rd hk => ⟨.int _, H, I.kept hk, ?_, q⟩
    rw [PySem.W.maxD_ints] at rd
    exact read_int rd
theorem cr_min1 (hc : X.calm = true) (hu : X.A.units + 1 < cLine) : CallR X (.builtin "min") (rMin1 X.K) := fun pins s σ H vs us Q I r ⟨a, n, ns, e, ht, q⟩ => by
  subst e
  rw [Vals.ref1 r]
  have room : X.A.units + 1 + PyData.depthAll ((PyData.int n) :: ns.map PyData.int) < cLine := by
    have := depthInts (n :: ns)
    rw [List.map_cons] at this
    omega
  rcases ht with ht | ht
  · obtain ⟨its, rv, p, hz⟩ := I.list ht
    refine PySem.W.min_list_data (I.ok.hd hc) p.isList (readsInts rv.ints) (alikeInts (n :: ns)) room fun i v h' tk bs _ rd hk => ⟨.int _, H, I.kept hk, ?_, q⟩
    rw [PySem.W.minD_ints] at rd
    exact read_int rd
  · obtain ⟨its, rv, p, hz⟩ := I.tuple ht
    refine PySem.W.min_tuple_data (I.ok.hd hc) p (readsInts rv.ints) (alikeInts (n :: ns)) room fun i v h' tk bs _ rd hk => ⟨.int _, H, I.kept hk, ?_, q⟩
    rw [PySem.W.minD_ints] at rd
    exact read_int rd
theorem seqV {K : PySem.W.Frag} {mg : Str → Option Value} {W : Wst} {H : Hp} {w : Wd} (wr : WR K mg w H W) {d : D} {x : V} {ns : List Int} (hm : seqD d = some (ns.map D.int)) (h : Con K mg W H d x) : ∃ a, x = .ref a ∧ (SqL K H a (ns.map V.int) ∨ SqT K H a (ns.map V.int)) := by
  rcases seqD_of hm with zl | ⟨_, zt⟩
  · obtain ⟨a, us, ex, rp, qa, _⟩ := h.sqL wr zl
    rw [rp.toInts] at qa
    exact ⟨a, ex, .inl qa⟩
  · obtain ⟨a, us, ex, rp, qa, _⟩ := h.sqT wr zt
    rw [rp.toInts] at qa
    exact ⟨a, ex, .inr qa⟩
theorem dcl_max1 (hc : X.calm = true) (hu : X.A.units + 1 < cLine) : DCl X (.builtin "max") bMax1 := by
  refine ⟨_, cr_max1 hc hu, fun w H W ds d vs Q wr c e q => ?_⟩
  unfold bMax1 at e
  split at e
  · rename_i d0
    obtain ⟨v, rfl, cv⟩ := paired1 c
    cases z : seqD d0 with
    | none => rw [z] at e; cases e
    | some ds =>
      rw [z] at e
      simp only [Option.bind_some] at e
      split at e
      · rename_i n ns zi
        cases e
        rw [intsD_map zi] at z
        obtain ⟨a, ex, qa⟩ := seqV wr z cv
        exact ⟨a, n, ns, by rw [ex], qa, q _ H W (Grow.refl _ _) wr (by rw [Rep])⟩
      · cases e
  · cases e
theorem dcl_min1 (hc : X.calm = true) (hu : X.A.units + 1 < cLine) : DCl X (.builtin "min") bMin1 := by
  refine ⟨_, cr_min1 hc hu, fun w H W ds d vs Q wr c e q => ?_⟩
  unfold bMin1 at e
  split at e
  · rename_i d0
    obtain ⟨v, rfl, cv⟩ := paired1 c
    cases z : seqD d0 with
    | none => rw [z] at e; cases e
    | some ds =>
      rw [z] at e
      simp only [Option.bind_some] at e
      split at e
      · rename_i n ns zi
        cases e
        rw [intsD_map zi] at z
        obtain ⟨a, ex, qa⟩ := seqV wr z cv
        exact ⟨a, n, ns, by rw [ex], qa, q _ H W (Grow.refl _ _) wr (by rw [Rep])⟩
      · cases e
  · cases e
def bMax : List D → Option D
  | [d] => bMax1 [d]
  | ds => bMax2 ds
def bMin : List D → Option D
  | [d] => bMin1 [d]
  | ds => bMin2 ds
theorem DCl.of {f : Value} {h1 h2 : List D → Option D} (k1 : DCl X f h1) (e : ∀ ds, h2 ds = h1 ds) : DCl X f h2 := by
  have : h2 = h1 := by funext a; exact e a
  rw [this]; exact k1
theorem DClN.of {f : Value} {h1 h2 : List D → Option D} (k1 : DClN X f h1) (e : ∀ ds, h2 ds = h1 ds) : DClN X f h2 := by
  have : h2 = h1 := by funext a; exact e a
  rw [this]; exact k1
theorem dcl_max (hc : X.calm = true) (hu : X.A.units + 1 < cLine) : DCl X (.builtin "max") bMax := ((dcl_max1 hc hu).or (dcl_max2 hc)).of fun ds => by
  rcases ds with _ | ⟨d, _ | ⟨e, r⟩⟩
  · rfl
  · show bMax1 [d] = (bMax1 [d]).or (bMax2 [d])
    have : bMax2 [d] = none := by cases d <;> rfl
    rw [this, Option.or_none]
  · rfl
theorem dcl_min (hc : X.calm = true) (hu : X.A.units + 1 < cLine) : DCl X (.builtin "min") bMin := ((dcl_min1 hc hu).or (dcl_min2 hc)).of fun ds => by
  rcases ds with _ | ⟨d, _ | ⟨e, r⟩⟩
  · rfl
  · show bMin1 [d] = (bMin1 [d]).or (bMin2 [d])
    have : bMin2 [d] = none := by cases d <;> rfl
    rw [this, Option.or_none]
  · rfl
end

/-! ### sorted -/
section
variable {α : Type}
/-- put in its place, ahead of its equals -/
def insS (le : α → α → Bool) (x : α) : List α → List α
  | [] => [x]
  | y :: l => if le x y = true then x :: y :: l else y :: insS le x l
def isort (le : α → α → Bool) : List α → List α
  | [] => []
  | x :: l => insS le x (isort le l)
theorem insS_perm (le : α → α → Bool) (x : α) : ∀ l : List α, (insS le x l).Perm (x :: l)
  | [] => .refl _
  | y :: l => by
    unfold insS
    split
    · exact .refl _
    · exact ((insS_perm le x l).cons y).trans (.swap x y l)
theorem isort_perm (le : α → α → Bool) : ∀ l : List α, (isort le l).Perm l
  | [] => .refl _
  | x :: l => (insS_perm le x _).trans ((isort_perm le l).cons x)
theorem insS_pair {le : α → α → Bool} (h : PySem.W.TotalLe le) (x : α) : ∀ l : List α, l.Pairwise (fun a b => le a b = true) → (insS le x l).Pairwise (fun a b => le a b = true)
  | [], _ => List.pairwise_singleton _ _
  | y :: l, p => by
    unfold insS
    split
    · rename_i hxy
      refine List.pairwise_cons.mpr ⟨fun z hz => ?_, p⟩
      rcases List.mem_cons.mp hz with rfl | hz
      · exact hxy
      · exact h.trans _ _ _ hxy ((List.pairwise_cons.mp p).1 z hz)
    · rename_i hxy
      have hyx : le y x = true := (h.total x y).elim (fun q => absurd q hxy) id
      refine List.pairwise_cons.mpr ⟨fun z hz => ?_, insS_pair h x l (List.pairwise_cons.mp p).2⟩
      rcases List.mem_cons.mp ((insS_perm le x l).mem_iff.mp hz) with rfl | hz
      · exact hyx
      · exact (List.pairwise_cons.mp p).1 z hz
theorem isort_pair {le : α → α → Bool} (h : PySem.W.TotalLe le) : ∀ l : List α, (isort le l).Pairwise (fun a b => le a b = true)
  | [] => .nil
  | x :: l => insS_pair h x _ (isort_pair h l)
theorem insS_filter {le : α → α → Bool} (h : PySem.W.TotalLe le) (x c : α) : ∀ l : List α, (insS le x l).filter (PySem.W.sameRank le c) = (x :: l).filter (PySem.W.sameRank le c)
  | [] => rfl
  | y :: l => by
    unfold insS
    split
    · rfl
    · rename_i hxy
      rw [List.filter_cons, insS_filter h x c l]
      by_cases hx : PySem.W.sameRank le c x = true
      · have hy : PySem.W.sameRank le c y = false := by
          cases z : PySem.W.sameRank le c y with
          | false => rfl
          | true =>
            exfalso
            unfold PySem.W.sameRank at hx z
            rw [Bool.and_eq_true] at hx z
            exact hxy (h.trans _ _ _ hx.2 z.1)
        simp only [List.filter_cons, hx, hy, if_true, if_false, Bool.false_eq_true]
      · simp only [List.filter_cons, hx, if_false]
        rfl
theorem isort_filter {le : α → α → Bool} (h : PySem.W.TotalLe le) (c : α) : ∀ l : List α, (isort le l).filter (PySem.W.sameRank le c) = l.filter (PySem.W.sameRank le c)
  | [] => rfl
  | x :: l => by
    show (insS le x (isort le l)).filter _ = _
    rw [insS_filter h, List.filter_cons, List.filter_cons, isort_filter h c l]
theorem isort_eq {le : α → α → Bool} (h : PySem.W.TotalLe le) (l : List α) : isort le l = l.mergeSort le := PySem.W.sort_unique h (isort_pair h l) fun c => isort_filter h c l
end
/-- ints at level 0; tuples of things of a level at the next -/
def isL : Nat → D → Bool
  | 0, .int _ => true
  | n + 1, .tup ds => ds.all (isL n)
  | _, _ => false
theorem alikeAll_of (P : D → Prop) (h : ∀ a b, P a → P b → PySem.W.alike a.toPy b.toPy = true) : ∀ (xs ys : List D), (∀ x ∈ xs, P x) → (∀ y ∈ ys, P y) → PySem.W.alikeAll (toPys xs) (toPys ys) = true
  | [], ys, _, _ => by simp only [toPys, PySem.W.alikeAll]
  | x :: xs, [], _, _ => by simp only [toPys, PySem.W.alikeAll]
  | x :: xs, y :: ys, hx, hy => by
    simp only [toPys, PySem.W.alikeAll]
    rw [h x y (hx x (List.mem_cons_self ..)) (hy y (List.mem_cons_self ..)), alikeAll_of P h xs ys (fun z hz => hx z (List.mem_cons_of_mem _ hz)) (fun z hz => hy z (List.mem_cons_of_mem _ hz))]
    rfl
theorem isL_alike : ∀ (n : Nat) (a b : D), isL n a = true → isL n b = true → PySem.W.alike a.toPy b.toPy = true
  | 0, a, b, h, h' => by
    cases a with
    | int i =>
      cases b with
      | int j => simp only [D.toPy, PySem.W.alike]
      | _ => cases h'
    | _ => cases h
  | n + 1, a, b, h, h' => by
    cases a with
    | tup xs =>
      cases b with
      | tup ys =>
        simp only [D.toPy, PySem.W.alike]
        exact alikeAll_of (fun d => isL n d = true) (fun a b => isL_alike n a b) xs ys (fun x hx => List.all_eq_true.mp h x hx) (fun y hy => List.all_eq_true.mp h' y hy)
      | _ => cases h'
    | _ => cases h
/-- every two may be compared -/
def alikes (ds : List D) : Bool := ds.all (isL 0) || (ds.all (isL 1) || (ds.all (isL 2) || (ds.all (isL 3) || ds.all fun a => ds.all fun b => PySem.W.alike a.toPy b.toPy)))
theorem alikes_of {ds : List D} (h : alikes ds = true) : ∀ a ∈ ds, ∀ b ∈ ds, PySem.W.alike a.toPy b.toPy = true := by
  intro a ha b hb
  have lv : ∀ n, ds.all (isL n) = true → PySem.W.alike a.toPy b.toPy = true := fun n z => isL_alike n a b (List.all_eq_true.mp z a ha) (List.all_eq_true.mp z b hb)
  unfold alikes at h
  simp only [Bool.or_eq_true] at h
  rcases h with h | h | h | h | h
  · exact lv _ h
  · exact lv _ h
  · exact lv _ h
  · exact lv _ h
  · exact List.all_eq_true.mp (List.all_eq_true.mp h a ha) b hb
def tupNE : D → Bool
  | .tup (_ :: _) => true
  | .ftp (_ :: _) => true
  | _ => false
def noTup : D → Bool
  | .non => false
  | .tup _ => false
  | .ftp _ => false
  | _ => true
def notNon : D → Bool
  | .non => false
  | _ => true
def sortOk (ds : List D) : Bool := decide (ds.length ≤ sizeLine) && (alikes ds && (ds.all (fun d => SeqAt.shaped d.toPy && notNon d) && (decide (ds.length ≤ 1) || (ds.all tupNE || ds.all noTup))))
structure SortOk (ds : List D) : Prop where
  len : ds.length ≤ sizeLine
  al : ∀ a ∈ ds, ∀ b ∈ ds, PySem.W.alike a.toPy b.toPy = true
  sh : ∀ a ∈ ds, SeqAt.shaped a.toPy = true
  nn : ∀ a ∈ ds, a.toPy ≠ .none
  kd : ds.length ≤ 1 ∨ PySem.W.Sortable (ds.map D.toPy)
theorem sortOk_of {ds : List D} (h : sortOk ds = true) : SortOk ds := by
  unfold sortOk at h
  simp only [Bool.and_eq_true, Bool.or_eq_true, decide_eq_true_eq] at h
  obtain ⟨h1, h2, h3, h4⟩ := h
  have hh := List.all_eq_true.mp h3
  refine ⟨h1, alikes_of h2, fun a ha => ?_, fun a ha => ?_, ?_⟩
  · have := hh a ha
    rw [Bool.and_eq_true] at this; exact this.1
  · have := hh a ha
    rw [Bool.and_eq_true] at this
    intro z
    cases a with
    | non => exact absurd this.2 (by decide)
    | _ => simp only [D.toPy] at z; cases z
  · rcases h4 with h4 | h4 | h4
    · exact .inl h4
    · refine .inr (.inl fun d hd => ?_)
      obtain ⟨a, ha, rfl⟩ := List.mem_map.mp hd
      have := List.all_eq_true.mp h4 a ha
      cases a with
      | tup ds =>
        cases ds with
        | nil => cases this
        | cons x xs => exact ⟨_, _, rfl⟩
      | ftp ds =>
        cases ds with
        | nil => cases this
        | cons x xs => exact ⟨_, _, rfl⟩
      | _ => cases this
    · refine .inr (.inr fun d hd => ?_)
      obtain ⟨a, ha, rfl⟩ := List.mem_map.mp hd
      have := List.all_eq_true.mp h4 a ha
      cases a with
      | tup ds => cases this
      | ftp ds => cases this
      | non => cases this
      | _ => exact ⟨(fun z => by simp only [D.toPy] at z; cases z), (fun xs z => by simp only [D.toPy] at z; cases z)⟩
def sLe (rev : Bool) : D → D → Bool := PySem.W.dataLe rev D.toPy
theorem sLe_total (rev : Bool) : PySem.W.TotalLe (sLe rev) := PySem.W.sortLe_total _ _ _
def dSort (rev : Bool) (ds : List D) : Option D := if sortOk ds = true then some (.lst (isort (sLe rev) ds)) else none
def bSorted (rev : Bool) : List D → Option D
  | [d] => (lsD d).bind (dSort rev)
  | _ => none
section
variable {prog : Program} {w : World} {A : Around} {s : Shared}
open PySem.W in
theorem sorts_at {vs : List Value} {ds : List D} (ok : SortOk ds) (e : EachIs (fun v d => ∃ as, Reads s.heap v d as) vs (ds.map D.toPy)) (hu : A.units + 64 < cLine) : SortsAt prog w A s (dataKind s.heap (ds.map D.toPy)) vs := by
  have hal : AllAlike (ds.map D.toPy) := fun d hd d' hd' => by
    obtain ⟨a, ha, rfl⟩ := List.mem_map.mp hd
    obtain ⟨b, hb, rfl⟩ := List.mem_map.mp hd'
    exact ok.al a ha b hb
  have dep : ∀ d, d ∈ ds.map D.toPy → d.depth ≤ 64 := fun d hd => by
    obtain ⟨a, ha, rfl⟩ := List.mem_map.mp hd
    exact SeqAt.depth_of_shaped (ok.sh a ha)
  rcases ok.kd with h1 | hk
  · refine ⟨fun v hv => ?_, general', fun E x y a b Q ha hb hq => ?_, fun h2 => ?_⟩
    · obtain ⟨d, hd, as, r⟩ := e.left v hv
      exact ⟨_, dataKind_some hal hd r⟩
    · obtain ⟨d, as, hd, ra, rfl⟩ := dataKind_inv ha
      obtain ⟨d', as', hd', rb, rfl⟩ := dataKind_inv hb
      have nn : d ≠ .none := by
        obtain ⟨a, ha', rfl⟩ := List.mem_map.mp hd
        exact ok.nn a ha'
      have room : A.units + min d.depth d'.depth < cLine := Nat.lt_of_le_of_lt (Nat.add_le_add_left (Nat.le_trans (Nat.min_le_left _ _) (dep d hd)) _) hu
      show wpAny (model prog w) A (oneLt' false x y) Q E s
      exact oneLt_alike (fun z => by cases z) ra rb (hal d hd d' hd') nn room hq
    · exfalso
      have := e.length
      rw [List.length_map] at this
      omega
  · exact SortsAt.data e hal hk fun d hd => Nat.lt_of_le_of_lt (Nat.add_le_add_left (dep d hd) _) hu

end
theorem reps_each {K : PySem.W.Frag} {mg : Str → Option Value} {W : Wst} : ∀ {ds : List D} {xs : List V} {us : List Value}, Reps K mg W ds xs → Vals xs us → PySem.W.EachIs (fun v d => ∃ x, RelV x v ∧ Rep K mg W d x) us ds
  | [], xs, us, r, v => by
    rw [Reps] at r; subst r; cases v; exact .nil
  | d :: ds, xs, us, r, v => by
    rw [Reps] at r
    obtain ⟨x, t, e, q, r⟩ := r
    subst e
    cases v with
    | cons h v => exact .cons ⟨x, h, q⟩ (reps_each r v)
theorem each_reps {K : PySem.W.Frag} {mg : Str → Option Value} {W : Wst} : ∀ {ds : List D} {us : List Value}, PySem.W.EachIs (fun v d => ∃ x, RelV x v ∧ Rep K mg W d x) us ds → ∃ xs, Vals xs us ∧ Reps K mg W ds xs
  | [], us, e => by cases e; exact ⟨[], .nil, Reps.nil⟩
  | d :: ds, us, e => by
    cases e with
    | cons h e =>
      obtain ⟨x, h1, h2⟩ := h
      obtain ⟨xs, h3, h4⟩ := each_reps e
      exact ⟨x :: xs, .cons h1 h3, Reps.cons h2 h4⟩
def rSortD (K : PySem.W.Frag) (mg : Str → Option Value) (rev : Bool) : List V → Hp → VK → Prop := fun vs H Q => ∃ (a : Addr) (xs : List V) (ds : List D) (W : Wst) (w : Wd), vs = [.ref a] ∧ SqL K H a xs ∧ WR K mg w H W ∧ Reps K mg W ds xs ∧ SortOk ds ∧
  ∀ ys p, Reps K mg W (isort (sLe rev) ds) ys → H p = none → Q (.ref p) (upd H p (.lst ys))
section
variable {X : Cx} {pins : List (Addr × Obj)} {σ : L2.St} {H : Hp} {s : Shared}
theorem each_reads (I : Inv X pins σ H s) {h : Heap} (hk : ∀ b o, s.heap.get? b = some o → h.get? b = some o) {W : Wst} {w : Wd} (wr : WR X.K X.mg w H W) {ds : List D} {us : List Value} (ok : SortOk ds) (e : PySem.W.EachIs (fun v d => ∃ x, RelV x v ∧ Rep X.K X.mg W d x) us ds) :
    PySem.W.EachIs (fun v d => ∃ as, Reads h v d as) us (ds.map D.toPy) := by
  refine PySem.W.each_map (R := fun v d => ∃ as, Reads h v d as) D.toPy ((PySem.W.each_mem e).mono fun v d ⟨⟨x, rx, q⟩, hd⟩ => ?_)
  obtain ⟨as, r⟩ := Dp.reads I _ x v (Con.dp wr (SeqAt.canLay_of_shaped (ok.sh d hd)) (.inl q)) rx
  exact ⟨as, PyProof.Rows.Reads.keeps hk r⟩
open PySem.W in
theorem sortD_run {a : Addr} {xs : List V} {ds : List D} {W : Wst} {w : Wd} {rev : Bool} {Q : VK} (I : Inv X pins σ H s) (hs : SqL X.K H a xs) (wr : WR X.K X.mg w H W) (rp : Reps X.K X.mg W ds xs) (ok : SortOk ds) (q : ∀ ys p, Reps X.K X.mg W (isort (sLe rev) ds) ys → H p = none → Q (.ref p) (upd H p (.lst ys))) :
    ∃ its : List Value, s.heap.IsList a its.toArray ∧ its.length ≤ sizeLine ∧ EachIs (fun v d => ∃ x, RelV x v ∧ Rep X.K X.mg W d x) its ds ∧
      ∀ h : Heap, (∀ b o, s.heap.get? b = some o → h.get? b = some o) → EP X pins σ Q (.ref (s.heap.objs.size + 1)) { s with heap := sortedAll s.heap its (sortVals (dataKind h (ds.map D.toPy)) rev its its).toArray } := by
  obtain ⟨its, rv, hl, hz⟩ := I.list hs
  have e := reps_each rp rv
  refine ⟨its, hl.isList, by rw [← rv.length]; exact hz, e, fun h hk => ?_⟩
  have hal : AllAlike (ds.map D.toPy) := fun d hd d' hd' => by
    obtain ⟨a, ha, rfl⟩ := List.mem_map.mp hd
    obtain ⟨b, hb, rfl⟩ := List.mem_map.mp hd'
    exact ok.al a ha b hb
  have er : EachIs (fun v (d : D) => ∃ as, Reads h v d.toPy as) its ds := (each_mem e).mono fun v d ⟨⟨x, rx, q⟩, hd⟩ => by
    obtain ⟨as, r⟩ := Dp.reads I _ x v (Con.dp wr (SeqAt.canLay_of_shaped (ok.sh d hd)) (.inl q)) rx
    exact ⟨as, PyProof.Rows.Reads.keeps hk r⟩
  have out := sortVals_data (enc := D.toPy) rev e er hal
  rw [show dataLe rev D.toPy = sLe rev from rfl, ← isort_eq (sLe_total rev)] at out
  obtain ⟨ys, v1, v2⟩ := each_reps out
  obtain ⟨ep, he'⟩ := PyProof.Rows.sortedAll_at s.heap its (sortVals (dataKind h (ds.map D.toPy)) rev its its).toArray
  have hlen : ys.length ≤ sizeLine := by
    rw [v1.length, out.length, (isort_perm _ _).length_eq]; exact ok.len
  exact ⟨.ref _, upd H (s.heap.objs.size + 1) (.lst ys), I.laid (t' := s.toks) (fun _ _ => PyProof.Rows.sortedAll_old) (Nat.le_succ _) ⟨hlen, _, ep, v1, he'⟩, rfl, q ys _ v2 (I.hok.fresh (Nat.le_succ _))⟩
open PySem.W in
theorem cr_sortD (hu : X.A.units + 66 < cLine) : CallR X (.builtin "sorted") (rSortD X.K X.mg false) := fun pins s σ H vs us Q I r ⟨a, xs, ds, W, w, e, hs, wr, rp, ok, q⟩ => by
  subst e
  rw [Vals.ref1 r]
  obtain ⟨its, hl, hz, ev, fin⟩ := sortD_run I hs wr rp ok q
  exact sorted_vals hl (sorts_at (s := { s with heap := sortingHeap (copyHeap s.heap its) (s.heap.objs.size + 1) its }) ok (each_reads I (fun _ _ => sorting_copy_old) wr ok ev) (by show X.A.units + 2 + 64 < _; omega)) hz (fin _ fun _ _ => sorting_copy_old)
/-- sorted(xs, reverse=b) -/
def rSortR (K : PySem.W.Frag) (mg : Str → Option Value) : List V → List V → Hp → VK → Prop := fun vs zs H Q => ∃ b : Bool, zs = [.bl b] ∧ rSortD K mg b vs H Q
open PySem.W in
theorem cr_sortR (hu : X.A.units + 66 < cLine) : CallRK X (.builtin "sorted") ["reverse"] (rSortR X.K X.mg) := fun pins s σ H vs zs us ws Q I r rz ⟨b, ez, a, xs, ds, W, w, e, hs, wr, rp, ok, q⟩ => by
  subst e ez
  rw [Vals.ref1 r]
  obtain ⟨u, eu, ru⟩ := Vals.one rz
  subst eu
  cases ru
  obtain ⟨its, hl, hz, ev, fin⟩ := sortD_run I hs wr rp ok q
  exact sorted_rev_vals hl (sorts_at (s := { s with heap := sortingHeap (copyHeap s.heap its) (s.heap.objs.size + 1) its }) ok (each_reads I (fun _ _ => sorting_copy_old) wr ok ev) (by show X.A.units + 2 + 64 < _; omega)) hz (fin _ fun _ _ => sorting_copy_old)
theorem dcln_sorted (hu : X.A.units + 66 < cLine) : DClN X (.builtin "sorted") (bSorted false) := by
  refine ⟨_, cr_sortD hu, fun w H W ds d vs Q wr c e q => ?_⟩
  unfold bSorted at e
  split at e
  · rename_i d0
    obtain ⟨v, rfl, cv⟩ := paired1 c
    cases z : lsD d0 with
    | none => rw [z] at e; cases e
    | some ds =>
      rw [z] at e
      have e : (if sortOk ds = true then some (D.lst (isort (sLe false) ds)) else none) = some d := e
      split at e
      · rename_i hk
        cases e
        obtain ⟨a, us, ex, rp, qa, _⟩ := cv.sqL wr z
        exact ⟨a, us, ds, W, w, by rw [ex], qa, wr, rp, sortOk_of hk, fun ys p ry hp => q p (.lst ys) hp ry⟩
      · cases e
  · cases e
end
end DL

set_option Elab.async false
set_option linter.all false
set_option maxRecDepth 100000
set_option maxHeartbeats 4000000
namespace DL
open PySem PySem.Spec PyProof.Rows L2

/-! ### the def's own things, changed -/
section
variable {K : PySem.W.Frag} {mg : Str → Option Value} {W W0 : Wst} {H H0 : Hp} {w : Wd} {Γ : Ev} {σ : L2.St}
/-- an own thing is changed -/
theorem SR.mut (s : SR K mg H0 Γ σ H W) {i : Nat} {d d' : D} {a : Addr} {o' : HO} (e : Γ[i]? = some (.own d)) (ea : σ[i]? = some (some (.ref a))) (r : RepO K mg W d' o') : SR K mg H0 (Γ.set i (.own d')) σ (upd H a o') W where
  len := by rw [List.length_set]; exact s.len
  frz := fun j x q => by
    by_cases hj : i = j
    · subst hj
      rw [List.getElem?_set_self (List.getElem?_eq_some_iff.mp e).1] at q; cases q
    · rw [List.getElem?_set_ne hj] at q
      exact s.frz j x q
  own := fun j x q => by
    obtain ⟨a0, o0, f1, f2, f3, f4, f5, f6⟩ := s.own i d e
    rw [ea] at f1; cases f1
    by_cases hj : i = j
    · subst hj
      rw [List.getElem?_set_self (List.getElem?_eq_some_iff.mp e).1] at q; cases q
      exact ⟨a, o', ea, upd_same, r, f4, f5, f6⟩
    · rw [List.getElem?_set_ne hj] at q
      obtain ⟨b, u, g1, g2, g3, g4, g5, g6⟩ := s.own j x q
      have nb : b ≠ a := fun hb => by
        subst hb
        exact hj (s.inj i j d x b e q ea g1)
      exact ⟨b, u, g1, by rw [upd_ne nb]; exact g2, g3, g4, g5, g6⟩
  inj := fun j k x y b q1 q2 q3 q4 => by
    have back : ∀ {j : Nat} {x : D}, (Γ.set i (.own d'))[j]? = some (.own x) → ∃ x', Γ[j]? = some (.own x') := fun {j x} q => by
      by_cases hj : i = j
      · subst hj; exact ⟨d, e⟩
      · rw [List.getElem?_set_ne hj] at q; exact ⟨x, q⟩
    obtain ⟨x', q1⟩ := back q1
    obtain ⟨y', q2⟩ := back q2
    exact s.inj j k x' y' b q1 q2 q3 q4
theorem WR.mut (r : WR K mg w H W) {a : Addr} {o' : HO} (f : W.F a = none) (n : ∀ (n : Nat), W.ads[n]? ≠ some a) : WR K mg w (upd H a o') W where
  sub := fun b u e => by
    rw [upd_ne (fun z => by subst z; rw [f] at e; cases e)]
    exact r.sub b u e
  len := r.len
  cell := fun m b ds e1 e2 => by
    obtain ⟨vs, q, t⟩ := r.cell m b ds e1 e2
    exact ⟨vs, by rw [upd_ne (fun z => n m (by rw [← z]; exact e1))]; exact q, t⟩
  nf := r.nf
  nd := r.nd
theorem Grow.mut (g : Grow W0 H0 W H) {a : Addr} {o' : HO} (z : H0 a = none) : Grow W0 H0 W (upd H a o') where
  le := g.le
  keep := fun b u e n => by rw [upd_ne (ne_of_none e z)]; exact g.keep b u e n
  nofz := g.nofz
  noad := g.noad
/-- a cell is written -/
theorem WR.cellSet (r : WR K mg w H W) {n : Nat} {a : Addr} {ds : List D} {vs : List V} (e : W.ads[n]? = some a) (rp : Reps K mg W ds vs) : WR K mg (w.set n ds) (upd H a (.lst vs)) W where
  sub := fun b u q => by
    rw [upd_ne (fun z => by subst z; rw [r.nf n b e] at q; cases q)]
    exact r.sub b u q
  len := by rw [List.length_set]; exact r.len
  cell := fun m b es e1 e2 => by
    by_cases hm : n = m
    · subst hm
      rw [e] at e1; cases e1
      rw [List.getElem?_set_self (by rw [← r.len]; exact (List.getElem?_eq_some_iff.mp e).1)] at e2
      cases e2
      exact ⟨vs, upd_same, rp⟩
    · rw [List.getElem?_set_ne hm] at e2
      obtain ⟨us, q, t⟩ := r.cell m b es e1 e2
      exact ⟨us, by rw [upd_ne (fun z => hm (r.nd n m a e (by rw [← z]; exact e1)))]; exact q, t⟩
  nf := r.nf
  nd := r.nd
theorem Grow.cellSet (g : Grow W0 H0 W H) {n : Nat} {a : Addr} {o' : HO} (e : W.ads[n]? = some a) : Grow W0 H0 W (upd H a o') where
  le := g.le
  keep := fun b u eb nb => by
    by_cases hb : b = a
    · exfalso
      subst hb
      obtain ⟨m, q⟩ := g.noad b u n eb e
      exact nb m q
    · rw [upd_ne hb]; exact g.keep b u eb nb
  nofz := g.nofz
  noad := g.noad
theorem SR.cellSet (s : SR K mg H0 Γ σ H W) {n : Nat} {a : Addr} {o' : HO} (e : W.ads[n]? = some a) : SR K mg H0 Γ σ (upd H a o') W where
  len := s.len
  frz := s.frz
  own := fun j x q => by
    obtain ⟨b, u, g1, g2, g3, g4, g5, g6⟩ := s.own j x q
    exact ⟨b, u, g1, by rw [upd_ne (fun z => g5 n (by rw [z]; exact e))]; exact g2, g3, g4, g5, g6⟩
  inj := s.inj
end
/-- o[k] = v -/
def putD (d k v : D) : Option D := match d with
  | .lst ds => (match k with
    | .int i => (ixN ds.length i).map fun j => .lst (ds.set j v)
    | _ => none)
  | .dck kvs => if (toKey k).isSome = true ∧ kvs.length < sizeLine then some (.dck (dkPut kvs k v)) else none
  | .dct kvs => (match k with
    | .tup ds => if (toIntsX ds).isSome = true ∧ kvs.length < sizeLine then some (.dct (dkPut kvs k v)) else none
    | _ => none)
  | _ => none
def sPutAt (i : Nat) (k v : D) : SX := fun Γ w => match Γ[i]? with
  | some (.own d) => (match putD d k v with
    | some d' => .nx (Γ.set i (.own d')) w
    | none => .stuck)
  | some (.frz (.cell n)) => (match w[n]? with
    | some ds => (match putD (.lst ds) k v with
      | some (.lst ds') => .nx Γ (w.set n ds')
      | _ => .stuck)
    | none => .stuck)
  | _ => .stuck
theorem PSet.or {X : Cx} {t t' : TSet} (h : PSet X t) (h' : PSet X t') : PSet X (fun o i v H Q => t o i v H Q ∨ t' o i v H Q) := fun pins s σ H o i v ov iv u Q I r1 r2 r3 q => q.elim (h pins s σ H o i v ov iv u Q I r1 r2 r3) (h' pins s σ H o i v ov iv u Q I r1 r2 r3)
theorem PGet.or {X : Cx} {t t' : V → V → Hp → VK → Prop} (h : PGet X t) (h' : PGet X t') : PGet X (fun o i H Q => t o i H Q ∨ t' o i H Q) := fun pins s σ H o i ov iv Q I r1 r2 q => q.elim (h pins s σ H o i ov iv Q I r1 r2) (h' pins s σ H o i ov iv Q I r1 r2)
def rSetD : TSet := fun o i v H Q => ∃ a H', o = .ref a ∧ DPx H a i v H' ∧ Q H'
def rGetD : V → V → Hp → VK → Prop := fun o i H Q => ∃ a v, o = .ref a ∧ DGx H a i (some v) ∧ Q v H
def rSetA : TSet := fun o i v H Q => rSetL o i v H Q ∨ rSetD o i v H Q
def rGetA (K : PySem.W.Frag) : V → V → Hp → VK → Prop := fun o i H Q => rIxL K o i H Q ∨ rGetD o i H Q
section
variable {X : Cx}
theorem set_dict (hu : X.A.units + 1 < cLine) : PSet X rSetD := fun pins s σ H o i v ov iv u Q I r1 r2 r3 ⟨a, H', e, g, q⟩ => by
  subst e
  cases r1
  exact d_setItemX hu I g r2 r3 fun s' I' => ⟨H', I', q⟩
theorem get_dict (hu : X.A.units + 1 < cLine) : PGet X rGetD := fun pins s σ H o i ov iv Q I r1 r2 ⟨a, v, e, g, q⟩ => by
  subst e
  cases r1
  exact d_getItemX hu I g r2 fun w' s' I' r => ⟨v, H, I', r, q⟩
theorem get_lst : PGet X (rIxL X.K) := fun pins s σ H o i ov iv Q I ro ri ⟨p, xs, k, z, e1, e2, hq, he, q⟩ => by
  subst e1 e2
  cases ro
  obtain ⟨t, rfl⟩ := ri
  obtain ⟨its, r, pl, hz⟩ := I.list hq
  obtain ⟨j, h1, h2, h3, h4, h5⟩ := atI_get he
  obtain ⟨u, ew, ru⟩ := r.get h2
  have ll := r.length
  have big := line63
  have fin : EP X pins σ Q u s := ⟨z, H, I, ru, q⟩
  by_cases h0 : 0 ≤ k
  · have hj : k.toNat = j := by
      rw [seqIndex_of h0 h5] at h1
      exact Option.some.inj h1
    exact wpAny_getItem_list pl.isList h0 (by omega) (by rw [hj]; simpa using ew) fin
  · have hj : (k + (its.toArray.size : Int)).toNat = j := by
      rw [seqIndex_neg (by omega) h4] at h1
      rw [List.size_toArray, ← ll]
      exact Option.some.inj h1
    exact wpAny_getItem_list_neg pl.isList (by omega) (by rw [List.size_toArray] <;> omega) (by omega) (by rw [hj]; simpa using ew) fin
theorem set_any (hu : X.A.units + 1 < cLine) : PSet X rSetA := PSet.or set_list (set_dict hu)
theorem get_any (hu : X.A.units + 1 < cLine) : PGet X (rGetA X.K) := PGet.or get_lst (get_dict hu)
end
section
variable {K : PySem.W.Frag} {mg : Str → Option Value} {Wx : WX'} {W W0 : Wst} {H H0 : Hp} {w : Wd} {Γ : Ev} {σ : L2.St}
theorem putD_run (wr : WR K mg w H W) {d d' k v : D} {o : HO} {a : Addr} {yk yv : V} (ho : H a = some o) (ro : RepO K mg W d o) (ck : Con K mg W H k yk) (rv : Rep K mg W v yv) (e : putD d k v = some d') {Q : Hp → Prop} (q : ∀ o', RepO K mg W d' o' → Q (upd H a o')) : rSetA (.ref a) yk yv H Q := by
  cases d with
  | lst ds =>
    cases o with
    | lst vs =>
      cases k with
      | int i =>
        have e : (ixN ds.length i).map (fun j => D.lst (ds.set j v)) = some d' := e
        cases z : ixN ds.length i with
        | none => rw [z] at e; cases e
        | some j =>
          rw [z] at e; cases e
          have ro : Reps K mg W ds vs := ro
          exact .inl ⟨a, vs, i, j, rfl, ck.int, ho, by rw [← ro.length]; exact z, q (.lst (vs.set j yv)) (Reps.set j ro rv)⟩
      | _ => cases e
    | _ => exact ro.elim
  | dck kvs =>
    cases o with
    | dK kk =>
      have e : (if (toKey k).isSome = true ∧ kvs.length < sizeLine then some (D.dck (dkPut kvs k v)) else none) = some d' := e
      split at e
      · rename_i hh
        cases e
        obtain ⟨q', hq⟩ := Option.isSome_iff_exists.mp hh.1
        have ro : RepK K mg W kvs kk := ro
        have ek := toKey_keyD hq
        subst ek
        exact .inr ⟨a, _, rfl, .inl (.inl ⟨kk, q', ho, ck.key hq, by rw [← ro.length]; exact hh.2, rfl⟩), q (.dK (putK kk q' yv)) (ro.put q' rv)⟩
      · cases e
    | _ => exact ro.elim
  | dct kvs =>
    cases o with
    | ext φ =>
      cases k with
      | tup ds =>
        have e : (if (toIntsX ds).isSome = true ∧ kvs.length < sizeLine then some (D.dct (dkPut kvs (.tup ds) v)) else none) = some d' := e
        split at e
        · rename_i hh
          cases e
          obtain ⟨ks, hq⟩ := Option.isSome_iff_exists.mp hh.1
          obtain ⟨b, xs, e0, hk, hl, ro⟩ := ro
          subst e0
          have e3 := toIntsX_eq hq
          subst e3
          have ck : ∃ c vs, yk = .ref c ∧ TpO W.F c vs ∧ Reps K mg W ((ks.map Sum.inl).map keyD) vs := by
            rcases ck with ck | ⟨_, _, _, _, z, _⟩
            · rw [Rep] at ck; exact ck
            · exact (by unfold RepO at z; split at z <;> first | exact z.elim | (rename_i y _; cases y) | (rename_i y; cases y))
          obtain ⟨c, vs, ec, tc, r2⟩ := ck
          have ev : vs = ks.map V.int := by rw [r2.keys, List.map_map]; rfl
          subst ev
          have hlen : xs.length < sizeLine := by
            have := ro.length
            unfold kvX at this
            rw [List.length_map] at this
            rw [← this]; exact hh.2
          refine .inr ⟨a, _, rfl, .inr ⟨b, xs, ks, c, ho, hk.le wr.sub, ec, tc.le wr.sub, hlen, rfl⟩, q (.ext (phiR a (putX xs ks c yv))) ⟨a, _, rfl, putX_mem (C := fun k b => TpO W.F b (k.map V.int)) hk tc, Nat.le_trans (putX_len xs ks c yv) hlen, ?_⟩⟩
          rw [kvX_put]
          exact ro.put (ks.map Sum.inl) rv
        · cases e
      | _ => cases e
    | _ => exact ro.elim
  | _ => cases e
/-- a slot's thing is written -/
theorem put_run {D : Ends} {i : Nat} {k v : DL.D} {yo yk yv : V} (gr : Grow W0 H0 W H) (wr : WR K mg w H W) (s : SR K mg H0 Γ σ H W) (eo : σ[i]? = some (some yo)) (ck : Con K mg W H k yk) (rv : Rep K mg W v yv)
    (p : PostS K mg Wx H0 W0 W (sPutAt i k v Γ w) D) : rSetA yo yk yv H (fun H' => D.nx σ H') := by
  unfold sPutAt at p
  split at p
  · rename_i d q
    obtain ⟨a, o, e1, e2, e3, e4, e5, e6⟩ := s.own i d q
    rw [eo] at e1; cases e1
    cases z : putD d k v with
    | none => rw [z] at p; exact p.elim
    | some d' =>
      rw [z] at p
      exact putD_run wr e2 e3 ck rv z fun o' ro' => p σ _ W (Wle.refl _) (gr.mut e6) (wr.mut e4 e5) (s.mut q eo ro')
  · rename_i n q
    obtain ⟨u, f1, f2⟩ := s.frz i _ q
    rw [eo] at f1; cases f1
    rw [Rep] at f2
    obtain ⟨a, ea, ex⟩ := f2
    subst ex
    cases zw : w[n]? with
    | none => rw [zw] at p; exact p.elim
    | some ds =>
      rw [zw] at p
      dsimp only at p
      obtain ⟨vs, h1, h2⟩ := wr.cell n a ds ea zw
      cases z : putD (.lst ds) k v with
      | none => rw [z] at p; exact p.elim
      | some d' =>
        rw [z] at p
        cases d' with
        | lst ds' =>
          dsimp only at p
          refine putD_run (d := .lst ds) (o := .lst vs) wr h1 h2 ck rv z fun o' ro' => ?_
          cases o' with
          | lst vs' => exact p σ _ W (Wle.refl _) (gr.cellSet ea) (wr.cellSet ea ro') (s.cellSet ea)
          | _ => exact ro'.elim
        | _ => exact p.elim
  · exact p.elim
end
/-- the slot holds something -/
def known (i : Nat) (Γ : Ev) : Bool := match Γ[i]? with
  | some (.own _) => true
  | some (.frz _) => true
  | _ => false
theorem SR.known {K : PySem.W.Frag} {mg : Str → Option Value} {H0 : Hp} {Γ : Ev} {σ : L2.St} {H : Hp} {W : Wst} (s : SR K mg H0 Γ σ H W) {i : Nat} (h : known i Γ = true) : ∃ v, σ[i]? = some (some v) := by
  unfold DL.known at h
  split at h
  · rename_i d q
    obtain ⟨a, o, e, _⟩ := s.own i d q
    exact ⟨_, e⟩
  · rename_i d q
    obtain ⟨v, e, _⟩ := s.frz i d q
    exact ⟨_, e⟩
  · cases h
def sPut (i : Nat) (fi fv : EX D) : SX := fun Γ w => (fv Γ w).on fun v w1 => if known i Γ = true then (fi Γ w1).on fun k w2 => sPutAt i k v Γ w2 else .stuck
/-- what stands at a place of a slot's thing -/
def sGetAt (i : Nat) (k : D) (Γ : Ev) (w : Wd) : Option D := match Γ[i]? with
  | some (.own d) => dIx w d k
  | some (.frz (.cell n)) => dIx w (.cell n) k
  | _ => none
def sAugP (i : Nat) (h : D → D → Option D) (fi fv : EX D) : SX := fun Γ w => if known i Γ = true then (fi Γ w).on fun k w1 => (match sGetAt i k Γ w1 with
  | some x => (fv Γ w1).on fun y w2 => (match h x y with
    | some z => sPutAt i k z Γ w2
    | none => .stuck)
  | none => .stuck) else .stuck
section
variable {K : PySem.W.Frag} {mg : Str → Option Value} {W W0 : Wst} {H H0 : Hp} {w : Wd} {Γ : Ev} {σ : L2.St}
theorem dIxS_lst (wr : WR K mg w H W) {ds : List D} {vs : List V} {a : Addr} {i r : D} {y : V} (ha : SqL K H a vs) (rp : Reps K mg W ds vs) (ci : Con K mg W H i y) (e : dIxS (.lst ds) i = some r) {Q : VK} (q : ∀ v, Rep K mg W r v → Q v H) : rIxL K (.ref a) y H Q := by
  cases i with
  | int i =>
    obtain ⟨v, h1, h2⟩ := rp.atI (e : atI ds i = some r)
    exact ⟨a, vs, i, v, rfl, ci.int, ha, h1, q v h2⟩
  | _ => cases e
theorem get_run {i : Nat} {k x : D} {yo yk : V} (wr : WR K mg w H W) (s : SR K mg H0 Γ σ H W) (eo : σ[i]? = some (some yo)) (ck : Con K mg W H k yk) (e : sGetAt i k Γ w = some x) {Q : VK} (q : ∀ v, Rep K mg W x v → Q v H) : rGetA K yo yk H Q := by
  unfold sGetAt at e
  split at e
  · rename_i d z
    obtain ⟨a, o, e1, e2, e3, e4, e5, e6⟩ := s.own i d z
    rw [eo] at e1; cases e1
    have cd : Con K mg W H d (.ref a) := .inr ⟨a, o, rfl, e2, e3, e5⟩
    have dict : ∀ o, dGet d k = some o → o = some x → rGetA K (.ref a) yk H Q := fun o z e => by
      subst e
      obtain ⟨b, o', ex, dg, ro⟩ := Con.dget wr cd ck z
      cases o' with
      | none => exact ro.elim
      | some v => exact .inr ⟨b, v, ex, dg, q v ro⟩
    cases d with
    | lst ds =>
      cases o with
      | lst vs => exact .inl (dIxS_lst wr (SqL.of e2) e3 ck e q)
      | _ => exact e3.elim
    | dck kvs =>
      have e : (dGet (.dck kvs) k).bind id = some x := e
      cases zg : dGet (.dck kvs) k with
      | none => rw [zg] at e; cases e
      | some o => rw [zg] at e; exact dict o zg e
    | dct kvs =>
      have e : (dGet (.dct kvs) k).bind id = some x := e
      cases zg : dGet (.dct kvs) k with
      | none => rw [zg] at e; cases e
      | some o => rw [zg] at e; exact dict o zg e
    | _ => exact e3.elim
  · rename_i n z
    obtain ⟨u, f1, f2⟩ := s.frz i _ z
    rw [eo] at f1; cases f1
    rw [Rep] at f2
    obtain ⟨a, ea, ex⟩ := f2
    subst ex
    have e : (w[n]?).bind (fun ds => dIxS (.lst ds) k) = some x := e
    cases zw : w[n]? with
    | none => rw [zw] at e; cases e
    | some ds =>
      rw [zw] at e
      obtain ⟨vs, h1, h2⟩ := wr.cell n a ds ea zw
      exact .inl (dIxS_lst wr (SqL.of h1) h2 ck e q)
  · cases e
end
section
variable {X : Cx} {Wx : WX'} {H0 : Hp} {W0 : Wst} {o e k : Expr} {i : Nat} {fi fv : EX D} {pos tpos : Pos}
theorem ds_put (hu : X.A.units + 1 < cLine) (ho : PE X o (tVar i)) (hk : DP X Wx k fi) (hv : DF X Wx e fv) (hs : swapsWithSole [.Subscript o k tpos] e pos.line X.env = pure false := by rfl) (hw : swappedStores [.Subscript o k tpos] e X.env = pure none := by rfl)
    (h1 : (assignEach [.Subscript o k tpos] X.env).map (·.2) = [assign (.Subscript o k tpos) X.env] := by rfl)
    (ha : ∀ v, assign (.Subscript o k tpos) X.env v = (do
      let ov ← holding [v] (eval o X.env)
      let iv ← holding [v, ov] (eval k X.env)
      standAt tpos
      holding [v, ov, iv] (setItem ov iv v)
      release [v, ov, iv] []) := by intro _; rfl) : DS X Wx H0 W0 (.Assign [.Subscript o k tpos] e pos) (sPut i fi fv) := ⟨ps_imp (ps_asg hv.pe (pg_sub ho hk.pe (set_any hu) ha) hs hw h1) fun D σ H ⟨Γ, w, W, gr, wr, s, p⟩ => by
  refine ⟨H0, Γ, w, W, wr, s, p.on gr fun v w1 H1 W1 g1 r1 gr1 p1 yv cv => ?_⟩
  have s1 := s.grow g1
  split at p1
  · rename_i hk
    obtain ⟨yo, eo⟩ := s.known hk
    refine ⟨yo, eo, H0, Γ, w1, W1, r1, s1, p1.on gr1 fun k w2 H2 W2 g2 r2 gr2 p2 yk ck => ?_⟩
    exact put_run gr2 r2 (s1.grow g2) eo ck (Rep.le g2.le _ _ cv) p2
  · exact p1.elim⟩
/-- o[k] op= e; the operator in place -/
theorem ds_augP {op : Operator} {h : D → D → Option D} (hu : X.A.units + 1 < cLine) (kop : DOp X (inplaceOp op) h) (ho : PE X o (tVar i)) (hk : DP X Wx k fi) (hv : DP X Wx e fv)
    (ha : ∀ ov iv new, augStore k ov iv new = (do holding [new, ov, iv] (setItem ov iv new); release [new, ov, iv] []; pure .next) := by intros; rfl) : DS X Wx H0 W0 (.AugAssign (.Subscript o k tpos) op e pos) (sAugP i h fi fv) := by
  obtain ⟨r, hop, kop⟩ := kop
  refine ⟨ps_imp (ps_augS ho hk.pe (get_any hu) hv.pe hop (set_any hu) ha) fun D σ H ⟨Γ, w, W, gr, wr, s, p⟩ => ?_⟩
  unfold sAugP at p
  split at p
  · rename_i hk
    obtain ⟨yo, eo⟩ := s.known hk
    refine ⟨yo, eo, H0, Γ, w, W, wr, s, p.on gr fun k w1 H1 W1 g1 r1 gr1 p1 yk ck => ?_⟩
    have s1 := s.grow g1
    cases z : sGetAt i k Γ w1 with
    | none => rw [z] at p1; exact p1.elim
    | some x =>
      rw [z] at p1
      refine get_run r1 s1 eo ck z fun vx cx => ?_
      refine ⟨H0, Γ, w1, W1, r1, s1, p1.on gr1 fun y w2 H2 W2 g2 r2 gr2 p2 vy cy => ?_⟩
      cases zh : h x y with
      | none => rw [zh] at p2; exact p2.elim
      | some z' =>
        rw [zh] at p2
        refine kop w2 H2 W2 x y z' vx vy _ r2 (.inl (Rep.le g2.le _ _ cx)) cy zh fun v H3 W3 g3 r3 cv => ?_
        exact put_run (gr2.trans g3) r3 ((s1.grow g2).grow g3) eo ((ck.grow g2).grow g3) cv (PostS.later g3.le p2)
  · exact p.elim
end
end DL

set_option Elab.async false
set_option linter.all false
set_option maxRecDepth 100000
set_option maxHeartbeats 4000000
namespace DL
open PySem PySem.Spec PyProof.Rows L2

/-! ### append, extend, pop of an own list -/
def appD (d x : D) : Option D := match d with
  | .lst ds => if ds.length < sizeLine then some (.lst (ds ++ [x])) else none
  | _ => none
def extD (d x : D) : Option D := match d, x with
  | .lst ds, .lst es => if ds.length + es.length ≤ sizeLine then some (.lst (ds ++ es)) else none
  | _, _ => none
/-- an own list changed by a value -/
def sChgL (i : Nat) (h : List D → D → Option (List D)) (f : EX D) : SX := fun Γ w => match Γ[i]? with
  | some (.own (.lst ds)) => (f Γ w).on fun x w1 => (match h ds x with
    | some ds' => .nx (Γ.set i (.own (.lst ds'))) w1
    | none => .stuck)
  | _ => .stuck
section
variable {X : Cx} {Wx : WX'} {H0 : Hp} {W0 : Wst} {o e : Expr} {i j : Nat} {f : EX D} {apos cpos pos : Pos}
theorem tyV_list {K : PySem.W.Frag} {H : Hp} {a : Addr} {vs : List V} (h : H a = some (.lst vs)) : tyV K "list" (.ref a) H := .inl ⟨rfl, vs, SqL.of h⟩
/-- the own list at a slot -/
theorem SR.ownL {K : PySem.W.Frag} {mg : Str → Option Value} {W : Wst} {H : Hp} {Γ : Ev} {σ : L2.St} {i : Nat} {ds : List D} (s : SR K mg H0 Γ σ H W) (e : Γ[i]? = some (.own (.lst ds))) : ∃ a vs, σ[i]? = some (some (.ref a)) ∧ H a = some (.lst vs) ∧ Reps K mg W ds vs ∧ W.F a = none ∧ (∀ (n : Nat), W.ads[n]? ≠ some a) ∧ H0 a = none := by
  obtain ⟨a, o, e1, e2, e3, e4⟩ := s.own i _ e
  cases o with
  | lst vs => exact ⟨a, vs, e1, e2, e3, e4⟩
  | _ => exact e3.elim
def hApp (ds : List D) (x : D) : Option (List D) := if ds.length < sizeLine then some (ds ++ [x]) else none
def hExt (ds : List D) (x : D) : Option (List D) := match x with
  | .lst es => if ds.length + es.length ≤ sizeLine then some (ds ++ es) else none
  | _ => none
theorem ds_append (ho : PE X o (tVar i)) (hv : DF X Wx e f) (hbase : attributeBase o "append" X.env (eval o X.env) = eval o X.env := by rfl)
    (hfew : ((backTo cpos (starEach (e :: []) X.env)).all (fun x => !x.1) && (backToKw cpos (keywordEach [] X.env)).all (fun x => x.1.isSome)
      && decide ((e :: []).length + ([] : List Keyword).length + (if ([] : List Keyword).isEmpty then 0 else 1) < 30)) = true := by rfl)
    (hline : (apos.endLine == cpos.line) = true := by rfl) (hs : starEach (e :: []) X.env = (false, eval e X.env) :: starEach [] X.env := by rfl) (hplain : (backTo cpos (starEach [] X.env)).any (·.1) = false := by rfl)
    (hsw : swapsWith (.Call (.Attribute o "append" apos) [e] [] cpos) none pos.line X.env = pure false := by rfl) :
    DS X Wx H0 W0 (.Expr (.Call (.Attribute o "append" apos) [e] [] cpos) pos) (sChgL i hApp f) := ⟨ps_imp (ps_expr (pe_bm PySem.F.plainAttrs_list PySem.F.slot_list_append PySem.F.type_list_append mt_append ho (eArg_f hv hs) hbase hfew hline hs hplain) hsw) fun D σ H ⟨Γ, w, W, gr, wr, s, p⟩ => by
  unfold sChgL at p
  split at p
  · rename_i ds hd
    obtain ⟨a, vs, e1, e2, e3, e4, e5, e6⟩ := s.ownL hd
    refine ⟨_, e1, tyV_list e2, H0, Γ, w, W, wr, s, p.on gr fun x w1 H1 W1 g1 r1 gr1 p1 v cv => ?_⟩
    obtain ⟨a', vs', f1, f2, f3, f4, f5, f6⟩ := (s.grow g1).ownL hd
    rw [e1] at f1; cases f1
    cases z : hApp ds x with
    | none => rw [z] at p1; exact p1.elim
    | some ds' =>
      rw [z] at p1
      unfold hApp at z
      split at z
      · rename_i hl
        cases z
        refine ⟨a, vs', v, rfl, rfl, f2, by rw [← f3.length]; exact hl, ?_⟩
        exact p1 σ _ W1 (Wle.refl _) (gr1.mut f6) (r1.mut f4 f5) ((s.grow g1).mut (o' := .lst (vs' ++ [v])) hd e1 (Reps.append f3 (Reps.cons cv Reps.nil)))
      · cases z
  · exact p.elim⟩
theorem ds_extend (ho : PE X o (tVar i)) (hv : DP X Wx e f) (hbase : attributeBase o "extend" X.env (eval o X.env) = eval o X.env := by rfl)
    (hfew : ((backTo cpos (starEach (e :: []) X.env)).all (fun x => !x.1) && (backToKw cpos (keywordEach [] X.env)).all (fun x => x.1.isSome)
      && decide ((e :: []).length + ([] : List Keyword).length + (if ([] : List Keyword).isEmpty then 0 else 1) < 30)) = true := by rfl)
    (hline : (apos.endLine == cpos.line) = true := by rfl) (hs : starEach (e :: []) X.env = (false, eval e X.env) :: starEach [] X.env := by rfl) (hplain : (backTo cpos (starEach [] X.env)).any (·.1) = false := by rfl)
    (hsw : swapsWith (.Call (.Attribute o "extend" apos) [e] [] cpos) none pos.line X.env = pure false := by rfl) :
    DS X Wx H0 W0 (.Expr (.Call (.Attribute o "extend" apos) [e] [] cpos) pos) (sChgL i hExt f) := ⟨ps_imp (ps_expr (pe_bm PySem.F.plainAttrs_list PySem.F.slot_list_extend PySem.F.type_list_extend mt_extend ho (eArg_p hv hs) hbase hfew hline hs hplain) hsw) fun D σ H ⟨Γ, w, W, gr, wr, s, p⟩ => by
  unfold sChgL at p
  split at p
  · rename_i ds hd
    obtain ⟨a, vs, e1, e2, e3, e4, e5, e6⟩ := s.ownL hd
    refine ⟨_, e1, tyV_list e2, H0, Γ, w, W, wr, s, p.on gr fun x w1 H1 W1 g1 r1 gr1 p1 v cv => ?_⟩
    obtain ⟨a', vs', f1, f2, f3, f4, f5, f6⟩ := (s.grow g1).ownL hd
    rw [e1] at f1; cases f1
    cases z : hExt ds x with
    | none => rw [z] at p1; exact p1.elim
    | some ds' =>
      rw [z] at p1
      cases x with
      | lst es =>
        have z : (if ds.length + es.length ≤ sizeLine then some (ds ++ es) else none) = some ds' := z
        split at z
        · rename_i hl
          cases z
          obtain ⟨b, us, ex, hb, rb⟩ := cv.lst r1
          refine ⟨a, b, vs', us, rfl, by rw [ex], f2, hb, by rw [← f3.length, ← rb.length]; exact hl, ?_⟩
          exact p1 σ _ W1 (Wle.refl _) (gr1.mut f6) (r1.mut f4 f5) ((s.grow g1).mut (o' := .lst (vs' ++ us)) hd e1 (Reps.append f3 rb))
        · cases z
      | _ => cases z
  · exact p.elim⟩
/-- j = i.pop() -/
def sPop (j i : Nat) : SX := fun Γ w => match Γ[i]? with
  | some (.own (.lst ds)) => (match ds[ds.length - 1]? with
    | some x => .nx ((Γ.set i (.own (.lst ds.dropLast))).set j (.frz x)) w
    | none => .stuck)
  | _ => .stuck
theorem Reps.dropLast {K : PySem.W.Frag} {mg : Str → Option Value} {W : Wst} {ds : List D} {vs : List V} (h : Reps K mg W ds vs) : Reps K mg W ds.dropLast vs.dropLast := by
  rw [List.dropLast_eq_take, List.dropLast_eq_take, h.length]
  exact h.take _
theorem ds_pop {st : Stmt} (ho : PE X o (tVar i)) (hp : PE X (.Call (.Attribute o "pop" apos) [] [] cpos) (tBM0 X.K "list" rPop (tVar i)) → PS X st (tAsg (tBM0 X.K "list" rPop (tVar i)) (gName j))) (hbase : attributeBase o "pop" X.env (eval o X.env) = eval o X.env := by rfl)
    (hline : (apos.endLine == cpos.line) = true := by rfl) : DS X Wx H0 W0 st (sPop j i) := ⟨ps_imp (hp (pe_bm0 PySem.F.plainAttrs_list PySem.F.slot_list_pop PySem.F.type_list_pop mt_pop ho hbase hline)) fun D σ H ⟨Γ, w, W, gr, wr, s, p⟩ => by
  unfold sPop at p
  split at p
  · rename_i ds hd
    obtain ⟨a, vs, e1, e2, e3, e4, e5, e6⟩ := s.ownL hd
    cases z : ds[ds.length - 1]? with
    | none => rw [z] at p; exact p.elim
    | some x =>
      rw [z] at p
      obtain ⟨v, h1, h2⟩ := e3.get z
      rw [e3.length] at h1
      refine ⟨_, e1, tyV_list e2, a, vs, v, rfl, rfl, e2, h1, ?_⟩
      exact p _ _ W (Wle.refl _) (gr.mut e6) (wr.mut e4 e5) ((s.mut (d' := .lst ds.dropLast) (o' := .lst vs.dropLast) hd e1 e3.dropLast).setF h2)
  · exact p.elim⟩
end

/-! ### name op= int -/
def sAugN (i : Nat) (h : D → D → Option D) (f : EX D) : SX := fun Γ w => match Γ[i]? with
  | some (.frz x) => (f Γ w).on fun y w1 => (match h x y with
    | some z => .nx (Γ.set i (.frz z)) w1
    | none => .stuck)
  | _ => .stuck
def cMul0 (i j : Int) : Bool := decide (-(2 ^ 64) < i ∧ i < 2 ^ 64) || decide (-(2 ^ 64) < j ∧ j < 2 ^ 64)
def aMul : D → D → Option D
  | .int i, .int j => if cMul0 i j then some (.int (i * j)) else none
  | _, _ => none
section
variable {X : Cx} {Wx : WX'} {H0 : Hp} {W0 : Wst} {e : Expr} {i j : Nat} {f : EX D} {pos : Pos}
theorem dop_augAdd : DOp X (inplaceOp .Add) iAdd := (dop_I0 iop_add (fun i j => .int (i + j)) fun _ _ _ => by rw [Rep]).of fun a b => by unfold iAdd; rfl
theorem dop_augSub : DOp X (inplaceOp .Sub) dSub := (dop_I0 iop_sub (fun i j => .int (i - j)) fun _ _ _ => by rw [Rep]).of fun a b => by unfold dSub; rfl
theorem dop_augMul : DOp X (inplaceOp .Mult) aMul := (dop_I iop_mul cMul0 (fun i j h => by
  unfold cMul0 at h
  rw [Bool.or_eq_true] at h
  rcases h with h | h
  · exact .inl (of_decide_eq_true h)
  · exact .inr (of_decide_eq_true h)) (fun i j => .int (i * j)) fun _ _ _ => by rw [Rep]).of fun a b => by unfold aMul; rfl
/-- hp: HandS's ps_aug -/
theorem ds_augN {op : Operator} {h : D → D → Option D} {st : Stmt} (kop : DOp X (inplaceOp op) h) (hv : DP X Wx e f) (hp : ∀ (te : TE) (ti : TIp), PE X e te → PIp X op ti → PS X st (tAug i te ti)) : DS X Wx H0 W0 st (sAugN i h f) := by
  obtain ⟨r, hop, kop⟩ := kop
  refine ⟨ps_imp (hp _ r hv.pe hop) fun D σ H ⟨Γ, w, W, gr, wr, s, p⟩ => ?_⟩
  unfold sAugN at p
  split at p
  · rename_i x hd
    obtain ⟨vx, e1, cx⟩ := s.frz i x hd
    refine ⟨vx, e1, H0, Γ, w, W, wr, s, p.on gr fun y w1 H1 W1 g1 r1 gr1 p1 vy cy => ?_⟩
    cases z : h x y with
    | none => rw [z] at p1; exact p1.elim
    | some d =>
      rw [z] at p1
      refine kop w1 H1 W1 x y d vx vy _ r1 (.inl (Rep.le g1.le _ _ cx)) cy z fun v H2 W2 g2 r2 cv => ?_
      exact p1 _ H2 W2 g2.le (gr1.trans g2) r2 (((s.grow g1).grow g2).setF cv)
  · exact p.elim
end
end DL

set_option Elab.async false
set_option linter.all false
set_option maxRecDepth 100000
set_option maxHeartbeats 4000000
namespace DL
open PySem PySem.Spec PyProof.Rows L2

/-! ### what is stored in a slot: a value for ever, or a new thing of the def's own -/
def SlIs (K : PySem.W.Frag) (mg : Str → Option Value) (W : Wst) (H H' : Hp) : Sl → V → Prop
  | .frz d, v => Rep K mg W d v
  | .own d, v => ∃ a o, v = .ref a ∧ H' a = some o ∧ RepO K mg W d o ∧ W.F a = none ∧ (∀ (n : Nat), W.ads[n]? ≠ some a) ∧ H a = none
  | .no, _ => False
def tSl (K : PySem.W.Frag) (mg : Str → Option Value) (Wx : WX') (f : EX Sl) : TE := fun σ H Q => ∃ H0 Γ w W, WR K mg w H W ∧ SR K mg H0 Γ σ H W ∧
  Post K mg (fun c o H => Wx c o σ H) W H (f Γ w) fun d w' H' W' => ∀ v, SlIs K mg W' H H' d v → Q v H'
structure DSl (X : Cx) (Wx : WX') (e : Expr) (f : EX Sl) : Prop where
  pe : PE X e (tSl X.K X.mg Wx f)
def eFz (f : EX D) : EX Sl := eBind f fun d => ePure (.frz d)
def eOw (f : EX D) : EX Sl := eBind f fun d => ePure (.own d)
section
variable {X : Cx} {Wx : WX'} {e e2 : Expr} {f : EX D}
theorem DF.sl (h : DF X Wx e f) : DSl X Wx e (eFz f) := ⟨pe_imp h.pe fun σ H Q ⟨H0, Γ, w, W, wr, s, p⟩ => ⟨H0, Γ, w, W, wr, s, (Post.bind p).mono fun d w1 H1 W1 g1 r1 p1 v c => p1 H1 W1 (Grow.refl _ _) r1 v c⟩⟩
theorem DN.sl (h : DN X Wx e f) : DSl X Wx e (eOw f) := ⟨pe_imp h.pe fun σ H Q ⟨H0, Γ, w, W, wr, s, p⟩ => ⟨H0, Γ, w, W, wr, s, (Post.bind p).mono fun d w1 H1 W1 g1 r1 p1 a o e1 e2 e3 e4 e5 => p1 H1 W1 (Grow.refl _ _) r1 (.ref a) ⟨a, o, rfl, e1, e2, e3, e4, e5⟩⟩⟩
end
section
variable {K : PySem.W.Frag} {mg : Str → Option Value} {W W' W0 : Wst} {H H' H0 : Hp} {w : Wd} {Γ : Ev} {σ : L2.St}
theorem SlIs.grow {sl : Sl} {v : V} {H1 : Hp} (g : Grow W H1 W' H') (h : SlIs K mg W H H1 sl v) : SlIs K mg W' H H' sl v := by
  cases sl with
  | frz d => exact Rep.le g.le _ _ h
  | own d =>
    obtain ⟨a, o, e, q, r, f, n, z⟩ := h
    exact ⟨a, o, e, g.keep a o q n, r.le g.le, g.nofz a o q r.mut f n, g.nad q n, z⟩
  | no => exact h.elim
/-- stored: H is a heap in which the slots' own things stand already -/
theorem SR.setSl (s : SR K mg H0 Γ σ H' W') {i : Nat} {sl : Sl} {v : V} {H1 : Hp} (h : SlIs K mg W' H1 H' sl v) (h0 : ∀ a, H1 a = none → H0 a = none) (ne : ∀ (j : Nat) d a, Γ[j]? = some (.own d) → σ[j]? = some (some (.ref a)) → j ≠ i → H1 a ≠ none) : SR K mg H0 (Γ.set i sl) (σ.set i (some v)) H' W' := by
  cases sl with
  | frz d => exact s.setF h
  | own d =>
    obtain ⟨a, o, e, q, r, f, n, z⟩ := h
    subst e
    exact s.setO q r f n (h0 a z) fun j e' hj z1 z2 => ne j e' a z1 z2 hj z
  | no => exact h.elim
theorem ads_none (gr : Grow W0 H0 W H) {a : Addr} (h : H a = none) (n : ∀ (n : Nat), W0.ads[n]? ≠ some a) : H0 a = none := by
  cases z : H0 a with
  | none => rfl
  | some u =>
    have := gr.keep a u z n
    rw [h] at this; cases this
end
def sSetS (i : Nat) (f : EX Sl) : SX := fun Γ w => (f Γ w).on fun d w' => .nx (Γ.set i d) w'
def sPar (i j : Nat) (f g : EX Sl) : SX := fun Γ w => (f Γ w).on fun d w' => (g Γ w').on fun d2 w2 => .nx ((Γ.set i d).set j d2) w2
def sPar3 (i j l : Nat) (f g k : EX Sl) : SX := fun Γ w => (f Γ w).on fun d w' => (g Γ w').on fun d2 w2 => (k Γ w2).on fun d3 w3 => .nx (((Γ.set i d).set j d2).set l d3) w3
section
variable {X : Cx} {Wx : WX'} {H0 : Hp} {W0 : Wst} {st : Stmt} {e e2 e3 : Expr} {f g k : EX Sl} {i j l : Nat}
/-- what is new in a heap was not there at the def's entry; a cell's place neither -/
theorem new0 {K : PySem.W.Frag} {mg : Str → Option Value} {W : Wst} {H : Hp} {w : Wd} (wr : WR K mg w H W) (gr : Grow W0 H0 W H) {a : Addr} (h : H a = none) : H0 a = none := by
  obtain ⟨f0, n0⟩ := wr.fresh h wr.len
  cases z : H0 a with
  | none => rfl
  | some u =>
    exfalso
    by_cases na : ∀ (n : Nat), W0.ads[n]? ≠ some a
    · have := gr.keep a u z na
      rw [h] at this; cases this
    · have : ∃ n : Nat, W0.ads[n]? = some a := Classical.byContradiction fun z => na fun n e => z ⟨n, e⟩
      obtain ⟨n, e⟩ := this
      exact n0 n (gr.le.a n a e)
theorem own_ne {K : PySem.W.Frag} {mg : Str → Option Value} {W : Wst} {H : Hp} {Γ : Ev} {σ : L2.St} (s : SR K mg H0 Γ σ H W) (j : Nat) (d : D) (a : Addr) (h : Γ[j]? = some (.own d)) (h2 : σ[j]? = some (some (.ref a))) : H a ≠ none := by
  obtain ⟨b, u, z3, z4, _⟩ := s.own j d h
  rw [h2] at z3; cases z3
  rw [z4]; intro z; cases z
theorem ds_setS (hv : DSl X Wx e f) (hp : ∀ te, PE X e te → PS X st (tAsg te (gName i))) : DS X Wx H0 W0 st (sSetS i f) := ⟨ps_imp (hp _ hv.pe) fun D σ H ⟨Γ, w, W, gr, wr, s, p⟩ =>
  ⟨H0, Γ, w, W, wr, s, p.on gr fun sl w1 H1 W1 g1 r1 gr1 p1 v cv => p1 _ H1 W1 (Wle.refl _) gr1 r1 ((s.grow g1).setSl cv (fun a h => new0 wr gr h) fun j d a h1 h2 _ => own_ne s j d a h1 h2)⟩⟩
theorem setSl_ne {K : PySem.W.Frag} {mg : Str → Option Value} {W W1 : Wst} {H H1 : Hp} {Γ : Ev} {σ : L2.St} {sl : Sl} {v : V} (s : SR K mg H0 Γ σ H W) (s1 : SR K mg H0 Γ σ H1 W1) (cv : SlIs K mg W1 H H1 sl v) (j : Nat) (d : D) (a : Addr) (h : (Γ.set i sl)[j]? = some (.own d)) (h2 : (σ.set i (some v))[j]? = some (some (.ref a))) : H1 a ≠ none := by
  by_cases hj : i = j
  · subst hj
    have hl : i < (Γ.set i sl).length := (List.getElem?_eq_some_iff.mp h).1
    rw [List.length_set] at hl
    rw [List.getElem?_set_self hl] at h
    rw [List.getElem?_set_self (s.len ▸ hl)] at h2
    cases h; cases h2
    obtain ⟨b, o, e, q, _⟩ := cv
    cases e
    rw [q]; intro z; cases z
  · rw [List.getElem?_set_ne hj] at h h2
    exact own_ne s1 j d a h h2
theorem ds_par (ha : DSl X Wx e f) (hb : DSl X Wx e2 g) (hs : starEach (e :: [e2]) X.env = (false, eval e X.env) :: starEach [e2] X.env := by rfl) (hs2 : starEach (e2 :: []) X.env = (false, eval e2 X.env) :: starEach [] X.env := by rfl) (hp : ∀ ta, PA X [e, e2] ta → PS X st (tPar i j ta)) : DS X Wx H0 W0 st (sPar i j f g) := ⟨ps_imp (hp _ (pa_cons ha.pe (pa_cons hb.pe pa_nil hs2) hs)) fun D σ H ⟨Γ, w, W, gr, wr, s, p⟩ => by
  refine ⟨H0, Γ, w, W, wr, s, p.on gr fun sl w1 H1 W1 g1 r1 gr1 p1 v cv => ?_⟩
  refine ⟨H0, Γ, w1, W1, r1, s.grow g1, p1.on gr1 fun sl2 w2 H2 W2 g2 r2 gr2 p2 v2 cv2 => ?_⟩
  have s1 := s.grow g1
  refine ⟨v, v2, rfl, p2 _ H2 W2 (Wle.refl _) gr2 r2 ?_⟩
  have t1 : SR X.K X.mg H0 (Γ.set i sl) (σ.set i (some v)) H1 W1 := s1.setSl cv (fun a h => new0 wr gr h) fun j d a h1 h2 _ => own_ne s j d a h1 h2
  exact (t1.grow g2).setSl cv2 (fun a h => new0 r1 gr1 h) fun j d a h1 h2 _ => setSl_ne s s1 cv j d a h1 h2⟩
theorem ds_par3 {f : EX Sl} {g : EX Sl} {k : EX Sl} (ha : DSl X Wx e f) (hb : DSl X Wx e2 g) (hc : DSl X Wx e3 k) (hs : starEach (e :: [e2, e3]) X.env = (false, eval e X.env) :: starEach [e2, e3] X.env := by rfl) (hs2 : starEach (e2 :: [e3]) X.env = (false, eval e2 X.env) :: starEach [e3] X.env := by rfl) (hs3 : starEach (e3 :: []) X.env = (false, eval e3 X.env) :: starEach [] X.env := by rfl)
    (hp : ∀ ta, PA X [e, e2, e3] ta → PS X st (tPar3 i j l ta)) : DS X Wx H0 W0 st (sPar3 i j l f g k) := ⟨ps_imp (hp _ (pa_cons ha.pe (pa_cons hb.pe (pa_cons hc.pe pa_nil hs3) hs2) hs)) fun D σ H ⟨Γ, w, W, gr, wr, s, p⟩ => by
  refine ⟨H0, Γ, w, W, wr, s, p.on gr fun sl w1 H1 W1 g1 r1 gr1 p1 v cv => ?_⟩
  have s1 := s.grow g1
  refine ⟨H0, Γ, w1, W1, r1, s1, p1.on gr1 fun sl2 w2 H2 W2 g2 r2 gr2 p2 v2 cv2 => ?_⟩
  have s2 := s1.grow g2
  refine ⟨H0, Γ, w2, W2, r2, s2, p2.on gr2 fun sl3 w3 H3 W3 g3 r3 gr3 p3 v3 cv3 => ?_⟩
  refine ⟨v, v2, v3, rfl, p3 _ H3 W3 (Wle.refl _) gr3 r3 ?_⟩
  have t1 : SR X.K X.mg H0 (Γ.set i sl) (σ.set i (some v)) H1 W1 := s1.setSl cv (fun a h => new0 wr gr h) fun j d a h1 h2 _ => own_ne s j d a h1 h2
  have t2 : SR X.K X.mg H0 ((Γ.set i sl).set j sl2) ((σ.set i (some v)).set j (some v2)) H2 W2 := (t1.grow g2).setSl cv2 (fun a h => new0 r1 gr1 h) fun j d a h1 h2 _ => setSl_ne s s1 cv j d a h1 h2
  refine (t2.grow g3).setSl cv3 (fun a h => new0 r2 gr2 h) fun m d a h1 h2 _ => own_ne t2 m d a h1 h2⟩
/-- target, .. = value -/
def sTgt (f : EX D) (tg : FT) : SX := fun Γ w => (f Γ w).on fun d w' => match tg d Γ with
  | some Γ' => .nx Γ' w'
  | none => .stuck
theorem ds_tgt {tg : Expr} {is : List Nat} {ft : FT} {f : EX D} {pos : Pos} (hv : DF X Wx e f) (hg : DG X tg is ft) (hs : swapsWithSole [tg] e pos.line X.env = pure false := by rfl) (hw : swappedStores [tg] e X.env = pure none := by rfl)
    (h1 : (assignEach [tg] X.env).map (·.2) = [assign tg X.env] := by rfl) : DS X Wx H0 W0 (.Assign [tg] e pos) (sTgt f ft) := ⟨ps_imp (ps_asg hv.pe hg.pg hs hw h1) fun D σ H ⟨Γ, w, W, gr, wr, s, p⟩ => by
  refine ⟨H0, Γ, w, W, wr, s, p.on gr fun d w1 H1 W1 g1 r1 gr1 p1 v cv => ?_⟩
  cases z : ft d Γ with
  | none => rw [z] at p1; exact p1.elim
  | some Γ' =>
    rw [z] at p1
    exact ⟨H0, Γ, w1, W1, d, Γ', r1, s.grow g1, cv, z, fun σ' s' _ => p1 σ' H1 W1 (Wle.refl _) gr1 r1 s'⟩⟩
/-- return of a new list, to be a cell -/
def sRetC (f : EX D) : SX := fun Γ w => (f Γ w).on fun d w' => match d with
  | .lst ds => .ret (.cell w'.length) (w' ++ [ds])
  | _ => .stuck
def Wst.cell (W : Wst) (a : Addr) : Wst := ⟨W.F, W.ads ++ [a]⟩
theorem Wle.cell {W : Wst} {a : Addr} : Wle W (W.cell a) := ⟨fun _ _ h => h, fun n b h => by
  show (W.ads ++ [a])[n]? = some b
  rw [List.getElem?_append_left (List.getElem?_eq_some_iff.mp h).1]; exact h⟩
theorem cell_get {W : Wst} {a b : Addr} {n : Nat} (h : (W.cell a).ads[n]? = some b) : W.ads[n]? = some b ∨ (n = W.ads.length ∧ b = a) := by
  have h : (W.ads ++ [a])[n]? = some b := h
  by_cases hl : n < W.ads.length
  · rw [List.getElem?_append_left hl] at h; exact .inl h
  · rw [List.getElem?_append_right (by omega)] at h
    right
    have hn : n - W.ads.length = 0 := by
      cases z : n - W.ads.length with
      | zero => rfl
      | succ m => rw [z] at h; simp at h
    rw [hn] at h
    simp at h
    exact ⟨by omega, h.symm⟩
theorem ds_retC {f : EX D} {pos : Pos} (h : DN X Wx e f) : DS X Wx H0 W0 (.Return (some e) pos) (sRetC f) := ⟨ps_imp (ps_ret h.pe) fun D σ H ⟨Γ, w, W, gr, wr, s, p⟩ => by
  refine ⟨H0, Γ, w, W, wr, s, p.on gr fun d w1 H1 W1 g1 r1 gr1 p1 a o e1 e2 e3 e4 e5 => ?_⟩
  cases d with
  | lst ds =>
    cases o with
    | lst vs =>
      dsimp only at p1
      have l : Wle W1 (W1.cell a) := Wle.cell
      have hn : (W1.cell a).ads[w1.length]? = some a := by
        show (W1.ads ++ [a])[w1.length]? = some a
        rw [← r1.len, List.getElem?_append_right (Nat.le_refl _)]; simp
      refine p1 (.ref a) H1 (W1.cell a) l ?_ ?_ (by rw [Rep]; exact ⟨a, hn, rfl⟩)
      · refine ⟨gr1.le.trans l, gr1.keep, gr1.nofz, fun b u n hb q => ?_⟩
        rcases cell_get q with q | ⟨_, q⟩
        · exact gr1.noad b u n hb q
        · exfalso
          subst q
          rw [new0 wr gr e5] at hb; cases hb
      · refine ⟨r1.sub, by show (W1.ads ++ [a]).length = (w1 ++ [ds]).length; rw [List.length_append, List.length_append, r1.len]; rfl, fun n b es q1 q2 => ?_, fun n b q => ?_, fun m n b q1 q2 => ?_⟩
        · rcases cell_get q1 with q | ⟨q, rfl⟩
          · have hl : n < w1.length := by rw [← r1.len]; exact (List.getElem?_eq_some_iff.mp q).1
            rw [List.getElem?_append_left hl] at q2
            obtain ⟨us, h1, h2⟩ := r1.cell n b es q q2
            exact ⟨us, h1, Reps.le l _ _ h2⟩
          · rw [q, r1.len, List.getElem?_append_right (Nat.le_refl _)] at q2
            simp at q2
            subst q2
            exact ⟨vs, e1, Reps.le l _ _ e2⟩
        · rcases cell_get q with q | ⟨_, rfl⟩
          · exact r1.nf n b q
          · exact e3
        · rcases cell_get q1 with t1 | ⟨h1, f1⟩
          · rcases cell_get q2 with t2 | ⟨h2, f2⟩
            · exact r1.nd m n b t1 t2
            · subst f2; exact absurd t1 (e4 m)
          · rcases cell_get q2 with t2 | ⟨h2, _⟩
            · subst f1; exact absurd t2 (e4 n)
            · rw [h1, h2]
    | _ => exact e2.elim
  | _ => exact p1.elim⟩
end
end DL

set_option Elab.async false
set_option linter.all false
set_option maxRecDepth 100000
set_option maxHeartbeats 4000000
namespace DL
open PySem PySem.Spec PyProof.Rows L2

/-! ### isinstance -/
def tyNames : List String := ["NoneType", "bool", "int", "str", "tuple", "list", "dict"]
def tyIs (a b : String) : Bool := (a == b) || (a == "bool" && b == "int")
theorem kit_tys : ∀ a ∈ tyNames, ∀ b ∈ tyNames, kitB a b = some (tyIs a b) := by decide +kernel
def tyD : D → Option String
  | .non => some "NoneType"
  | .bl _ => some "bool"
  | .int _ => some "int"
  | .str _ => some "str"
  | .tup _ => some "tuple"
  | .lst _ => some "list"
  | .dck _ => some "dict"
  | _ => none
theorem tyD_mem {d : D} {t : String} (h : tyD d = some t) : t ∈ tyNames := by
  cases d <;> first | (cases h; decide) | cases h
def eIsi (T : String) (f : EX D) : EX Bool := eBind f fun d _ => M.ofOption ((tyD d).map fun t => tyIs t T)
section
variable {K : PySem.W.Frag} {mg : Str → Option Value} {W W' : Wst} {H : Hp} {w : Wd}
theorem Con.tyx (wr : WR K mg w H W) {d : D} {x : V} {t : String} (h : tyD d = some t) (c : Con K mg W H d x) : TyX K H x (.type t) := by
  cases d with
  | non => cases h; rw [c.non]; exact .base .non
  | bl b => cases h; rw [c.bl]; exact .base (.bl b)
  | int b => cases h; rw [c.int]; exact .base (.int b)
  | str b => cases h; rw [c.str]; exact .base (.str b)
  | tup b => cases h; obtain ⟨a, vs, e, ⟨o, q, _⟩, _⟩ := c.tup wr; rw [e]; exact .fTuple q
  | lst b => cases h; obtain ⟨a, vs, e, q, _⟩ := c.lst wr; rw [e]; exact .base (.lst q)
  | dck b =>
    cases h
    obtain ⟨a, e, kk, q, _⟩ := c.dck wr
    rw [e]
    rcases q with q | ⟨o, q⟩
    · exact .base (.dK q)
    · exact .fDict q
  | _ => cases h
end
section
variable {X : Cx} {Wx : WX'} {e a b c : Expr} {ea eb ec : EX D} {pos p p2 : Pos}
theorem db_isi {T : Str} {n : String} (hT : bootBuiltins T = some (.type n)) (hn : n ∈ tyNames) (hg : Gl X "isinstance") (hm : X.mg "isinstance" = none) (hgT : Gl X T) (hmT : X.mg T = none) (ha : DP X Wx a ea)
    (hnT : T ≠ "__name__" := by decide) (hdT : (T == ("__debug__" : Str)) = false := by decide)
    (hs : starEach (a :: [.Name T p2]) X.env = (false, eval a X.env) :: starEach [.Name T p2] X.env := by rfl) (hs2 : starEach ((.Name T p2) :: []) X.env = (false, eval (.Name T p2) X.env) :: starEach [] X.env := by rfl) (hpl : (backTo pos (starEach [.Name T p2] X.env)).any (·.1) = false := by rfl) :
    DB X Wx (.Call (.Name "isinstance" p) [a, .Name T p2] [] pos) (eIsi n ea) := .mk' (pe_imp (pe_callB call_isi hg hm (by kernel_rfl) (pa_cons ha.pe (pa_cons (pe_bltn (v := .ty n) hgT hmT hT rfl hnT hdT) pa_nil hs2) hs) (by decide) (by decide) hs hpl) fun σ H Q ⟨H0, Γ, w, W, wr, s, p⟩ => by
  refine ⟨H0, Γ, w, W, wr, s, (Post.bind p).mono fun d w1 H1 W1 g1 r1 p1 v c => ?_⟩
  obtain ⟨o, z, q⟩ := Post.opt p1
  cases zt : tyD d with
  | none => rw [zt] at z; cases z
  | some t =>
    rw [zt] at z; cases z
    exact ⟨v, .ty n, .type t, .type n, _, rfl, .ty n, c.tyx r1 zt, kit_ty (kit_tys t (tyD_mem zt) n hn), q H1 W1 (Grow.refl _ _) r1⟩)
end

/-! ### repr, str -/
def shownOk (d : D) : Bool := SeqAt.shaped d.toPy && (d.toPy.showable && decide (d.toPy.shown.length ≤ sizeLine))
def bRepr : List D → Option D
  | [d] => if shownOk d = true then some (.str d.toPy.shown) else none
  | _ => none
def bStr : List D → Option D
  | [.int i] => if i.natAbs.log2 < 1920 then some (.str (toString i)) else none
  | [.str s] => some (.str s)
  | _ => none
def rRepr (K : PySem.W.Frag) : List V → Hp → VK → Prop := fun vs H Q => ∃ x d, vs = [x] ∧ Dp K H x d ∧ SeqAt.shaped d = true ∧ d.showable = true ∧ d.shown.length ≤ sizeLine ∧ Q (.str d.shown) H
section
variable {X : Cx}
theorem cr_repr (hu : X.A.units + 66 < cLine) (hgd : X.A.guards = some []) : CallR X (.builtin "repr") (rRepr X.K) := fun pins s σ H vs us Q I r ⟨x, d, e, dp, sh, so, sz, q⟩ => by
  subst e
  obtain ⟨u, eu, ru⟩ := Vals.one r
  subst eu
  obtain ⟨as, rd⟩ := Dp.reads I d x u dp ru
  have dep := SeqAt.depth_of_shaped sh
  cases rd with
  | none => exact PySem.P.repr_of_none ⟨.str _, H, I.tok _, ⟨_, rfl⟩, q⟩
  | bool b =>
    refine PySem.P.repr_of_bool ⟨.str _, H, I.tok _, ⟨_, rfl⟩, ?_⟩
    exact q
  | int i t =>
    have hi : i.natAbs.log2 < 1920 := by
      unfold PyData.showable at so
      exact of_decide_eq_true so
    exact PySem.P.repr_of_int hi ⟨.str _, H, I.tok _, ⟨_, rfl⟩, q⟩
  | str y t => exact PySem.P.repr_of_str (hsz := sz) ⟨.str _, H, I.tok _, ⟨_, rfl⟩, q⟩
  | list h1 h2 h3 h4 =>
    exact PySem.repr_of_reads' (.list h1 h2 h3 h4) so (PySem.PyData.noDict_hsm (PySem.PyData.hasDict_of_canLay _ (SeqAt.canLay_of_shaped sh))) hgd (by omega) (fun _ _ e => e) (fun h' u tk hk => ⟨.str _, H, I.kept hk, ⟨_, rfl⟩, q⟩) sz
  | tuple h1 h2 h3 h4 =>
    exact PySem.repr_of_reads' (.tuple h1 h2 h3 h4) so (PySem.PyData.noDict_hsm (PySem.PyData.hasDict_of_canLay _ (SeqAt.canLay_of_shaped sh))) hgd (by omega) (fun _ _ e => e) (fun h' u tk hk => ⟨.str _, H, I.kept hk, ⟨_, rfl⟩, q⟩) sz
  | dict h1 h2 h3 h4 h5 =>
    exact absurd (SeqAt.canLay_of_shaped sh) (by unfold PyData.canLay0; decide)
theorem dcl_repr (hu : X.A.units + 66 < cLine) (hgd : X.A.guards = some []) : DCl X (.builtin "repr") bRepr := by
  refine ⟨_, cr_repr hu hgd, fun w H W ds d vs Q wr c e q => ?_⟩
  unfold bRepr at e
  split at e
  · obtain ⟨v, rfl, cv⟩ := paired1 c
    split at e
    · rename_i hh
      cases e
      unfold shownOk at hh
      rw [Bool.and_eq_true, Bool.and_eq_true] at hh
      exact ⟨v, _, rfl, cv.dp wr (SeqAt.canLay_of_shaped hh.1), hh.1, hh.2.1, of_decide_eq_true hh.2.2, q _ _ _ (Grow.refl _ _) wr (by rw [Rep])⟩
    · cases e
  · cases e
theorem dcl_str : DCl X (.type "str") bStr := by
  refine ⟨_, CallR.or call_str_int SkE.call_str_str, fun w H W ds d vs Q wr c e q => ?_⟩
  unfold bStr at e
  split at e
  · obtain ⟨v, rfl, cv⟩ := paired1 c
    split at e
    · rename_i hl
      cases e
      exact .inl ⟨_, by rw [cv.int], hl, q _ _ _ (Grow.refl _ _) wr (by rw [Rep])⟩
    · cases e
  · obtain ⟨v, rfl, cv⟩ := paired1 c
    cases e
    exact .inr ⟨_, by rw [cv.str], q _ _ _ (Grow.refl _ _) wr (by rw [Rep])⟩
  · cases e
end
end DL

set_option Elab.async false
set_option linter.all false
set_option maxRecDepth 100000
set_option maxHeartbeats 4000000
/-! tuple * int where nothing is to be laid, or an empty tuple -/
namespace L2
open PySem PySem.Spec PyProof.Rows
theorem dl_mul_same (l : Addr) (xs : Array Value) (m : Nat) (dd : Option Addr) (sl : Array (Option Value)) (k : Int) (u : Tok) (h0 : (decide (k < -(2 ^ 63)) || decide (k ≥ 2 ^ 63)) = false) (h1 : (xs.isEmpty || k == 1) = true) :
    Meets (Builtin.«tuple.__mul__» ⟨[.ref l, .int k u], []⟩) (fun _ R s => s.heap.get? l = some { cls := .type "tuple", dict := dd, data := .seq xs m, slots := sl } ∧ R (.ok (.ret (.ref l))) s) := by
  refine .of_wp fun prog w A R s ⟨hl, h⟩ => ?_
  obtain ⟨hp, g, d, tk, os⟩ := s
  have ix := AutoSeq1.idx_int
  wp_walk using wpAny_loadPart' hl
  repeat (first
    | (refine wpAny_ite_false (decide_eq_false (by rw [h0]; exact Bool.false_ne_true)) ?_; wp_walk using wpAny_loadPart' hl)
    | (refine wpAny_ite_true (decide_eq_true h1) ?_; wp_walk using wpAny_loadPart' hl))
  exact ⟨_, rfl, h⟩
theorem dl_mul_none (l : Addr) (xs : Array Value) (m : Nat) (dd : Option Addr) (sl : Array (Option Value)) (k : Int) (u : Tok) (h0 : (decide (k < -(2 ^ 63)) || decide (k ≥ 2 ^ 63)) = false) (h1 : (xs.isEmpty || k == 1) = false) (h2 : (decide (k ≤ 0) || xs.isEmpty) = true) :
    Meets (Builtin.«tuple.__mul__» ⟨[.ref l, .int k u], []⟩) (fun _ R s => s.heap.get? l = some { cls := .type "tuple", dict := dd, data := .seq xs m, slots := sl } ∧
      R (.ok (.ret (.ref s.heap.objs.size))) { s with heap := s.heap.push { cls := .type "tuple", data := .seq #[] }, toks := s.toks }) := by
  refine .of_wp fun prog w A R s ⟨hl, h⟩ => ?_
  obtain ⟨hp, g, d, tk, os⟩ := s
  have ix := AutoSeq1.idx_int
  wp_walk using wpAny_loadPart' hl
  repeat (first
    | (refine wpAny_ite_false (decide_eq_false (by rw [h0]; exact Bool.false_ne_true)) ?_; wp_walk using wpAny_loadPart' hl)
    | (refine wpAny_ite_false (decide_eq_false (by rw [h1]; exact Bool.false_ne_true)) ?_; wp_walk using wpAny_loadPart' hl)
    | (refine wpAny_ite_true (decide_eq_true h2) ?_; wp_walk using wpAny_loadPart' hl))
  exact ⟨_, rfl, h⟩
/-- t * k that is t itself; that is empty -/
def rRep1 (K : PySem.W.Frag) : R2 := fun x y H Q => ∃ l k xs, x = .ref l ∧ y = .int k ∧ SqT K H l xs ∧ -(2 ^ 63) ≤ k ∧ k < 2 ^ 63 ∧ ((xs = [] ∨ k = 1) → Q (.ref l) H) ∧ (¬ (xs = [] ∨ k = 1) → k ≤ 0 ∧ newT H [] Q)
theorem op_rep1 {X : Cx} : OpR X (binaryOp .Mult) (rRep1 X.K) := fun pins s σ H x y v u Q I rx ry ⟨l, k, xs, e1, e2, hT, b1, b2, q1, q2⟩ => by
  subst e1 e2
  cases rx
  obtain ⟨t, rfl⟩ := ry
  obtain ⟨its, r, ⟨⟨cls, dd, data, sl⟩, ho, hc, n, hd⟩, hs⟩ := I.tuple hT
  simp only at hc hd
  subst hc hd
  have h0 : (decide (k < -(2 ^ 63)) || decide (k ≥ 2 ^ 63)) = false := by
    rw [decide_eq_false (by omega), decide_eq_false (by omega)]; rfl
  have emp : its.toArray.isEmpty = true ↔ xs = [] := by
    have hl := r.length
    cases its with
    | nil => exact ⟨fun _ => List.eq_nil_of_length_eq_zero (by rw [hl]; rfl), fun _ => rfl⟩
    | cons a b => exact ⟨(fun z => by cases z), fun z => by subst z; simp at hl⟩
  have road : ∀ {M : Value → Shared → Prop}, wpAny (model X.prog X.w) X.A (call (.builtin "tuple.__mul__") [.ref l, .int k t]) M X.xe s → wpAny (model X.prog X.w) X.A (binaryOp .Mult (.ref l) (.int k t)) M X.xe s := fun hM =>
    wpAny_binaryOp_repeat_ref (T := "tuple") (U := "int") (by decide) ⟨_, ho, rfl⟩ (fun s' => typeIs_int s' k t) noFill_tuple_mul F.fills_int_mul F.slot_int_rmul repeat_tuple F.slot_int_index.lookup
      (call_meets F.slot_int_rmul (typeIs_int s k t) F.entry_int_rmul (F.args_int_rmul_2 _ _) (int_rmul_tuple k t l its.toArray n dd sl) ⟨ho, rfl, ⟨_, ho, rfl⟩, hM⟩)
  by_cases hx : xs = [] ∨ k = 1
  · have h1 : (its.toArray.isEmpty || k == 1) = true := by
      rcases hx with hx | hx
      · rw [emp.mpr hx]; rfl
      · subst hx; rw [Bool.or_eq_true]; exact .inr rfl
    exact road (call_meets F.slot_tuple_mul ⟨_, ho, rfl⟩ F.entry_tuple_mul (F.args_tuple_mul_2 _ _) (dl_mul_same l its.toArray n dd sl k t h0 h1) ⟨ho, ⟨.ref l, H, I, rfl, q1 hx⟩⟩)
  · obtain ⟨hk, q⟩ := q2 hx
    have h1 : (its.toArray.isEmpty || k == 1) = false := by
      rw [Bool.or_eq_false_iff]
      refine ⟨?_, beq_eq_false_iff_ne.mpr fun z => hx (.inr z)⟩
      cases z : its.toArray.isEmpty with
      | false => rfl
      | true => exact absurd (.inl (emp.mp z)) hx
    have h2 : (decide (k ≤ 0) || its.toArray.isEmpty) = true := by rw [decide_eq_true hk]; rfl
    refine road (call_meets F.slot_tuple_mul ⟨_, ho, rfl⟩ F.entry_tuple_mul (F.args_tuple_mul_2 _ _) (dl_mul_none l its.toArray n dd sl k t h0 h1 h2) ⟨ho, ?_⟩)
    exact laidT (its := []) I .nil (Nat.zero_le _) q
end L2
namespace DL
open PySem PySem.Spec PyProof.Rows L2
section
variable {X : Cx}
theorem dop_tMul : DOp X (binaryOp .Mult) tMul := by
  obtain ⟨r, ho⟩ : ∃ r : R2, r = (fun x y H Q => rRepM X.K x y H Q ∨ rRep1 X.K x y H Q) := ⟨_, rfl⟩
  refine ⟨r, ho ▸ OpR.or op_repM op_rep1, fun w H W d1 d2 d x y Q wr c1 c2 e q => ?_⟩
  subst ho
  unfold tMul at e
  split at e
  · rename_i xs k
    have cc := c1
    obtain ⟨a, vs, ex, qa, rp⟩ := c1.tup wr
    have ek := c2.int
    split at e
    · rename_i hh
      cases e
      have hlen := rp.length
      have key : newT H (List.replicate k.toNat vs).flatten Q := fun p ob hp hcl hdi => by
        obtain ⟨W3, g3, r3, c3⟩ := new_tupM wr hp hcl hdi (rp.rep k.toNat)
        exact q _ _ W3 g3 r3 c3
      by_cases hbig : xs ≠ [] ∧ 2 ≤ k
      · exact .inl ⟨a, k, vs, ex, ek, qa.sq, (fun z => hbig.1 (List.eq_nil_of_length_eq_zero (by rw [hlen, z]; rfl))), hbig.2, hh.2.2, by rw [← hlen]; exact hh.1, key⟩
      · refine .inr ⟨a, k, vs, ex, ek, qa.sq, by omega, by omega, fun h1 => ?_, fun h1 => ?_⟩
        · have same : (List.replicate k.toNat xs).flatten = xs := by
            rcases h1 with h1 | h1
            · subst h1
              have : xs = [] := List.eq_nil_of_length_eq_zero hlen
              subst this
              simp
            · subst h1
              show (List.replicate 1 xs).flatten = xs
              simp
          rw [same] at q
          refine q _ _ _ (Grow.refl _ _) wr ?_
          rcases cc with cc | ⟨_, _, _, _, zz, _⟩
          · rw [← ex]; exact cc
          · exact zz.elim
        · have hk : k ≤ 0 := by
            by_cases h2 : 2 ≤ k
            · exfalso
              exact hbig ⟨(fun z => h1 (.inl (List.eq_nil_of_length_eq_zero (by rw [← hlen, z]; rfl)))), h2⟩
            · have : k ≠ 1 := fun z => h1 (.inr z)
              omega
          refine ⟨hk, fun p ob hp hcl hdi => ?_⟩
          have e0 : k.toNat = 0 := by omega
          rw [e0] at q
          obtain ⟨W3, g3, r3, c3⟩ := new_tupM (ds := []) wr hp hcl hdi Reps.nil
          exact q _ _ W3 g3 r3 (by simpa using c3)
    · cases e
  · cases e
theorem dop_mul : DOp X (binaryOp .Mult) dMul := ((dop_iMul.or dop_tMul).or dopn_lMul.f).of fun a b => by
  unfold dMul iMul tMul lMul
  cases a <;> cases b <;> simp
end
end DL

set_option Elab.async false
set_option linter.all false
set_option maxRecDepth 100000
set_option maxHeartbeats 4000000
namespace DL
open PySem PySem.Spec PyProof.Rows L2

section
variable {X : Cx} {Wx : WX'} {e a b c : Expr} {ea eb ec : EX D} {pos p p2 p3 apos cpos : Pos}
/-! ### {} -/
theorem dn_dnewK : DN X Wx (.Dict [] [] pos) (ePure (.dck [])) := ⟨pe_imp pe_dnewK fun σ H Q ⟨H0, Γ, w, W, wr, s, p⟩ q hq => by
  obtain ⟨f0, n0⟩ := wr.fresh hq wr.len
  exact p _ W (Grow.lay hq) (wr.lay hq) q (.dK []) upd_same (show RepK _ _ _ _ _ by rw [RepK]) f0 n0 hq⟩
theorem dn_dnewT : DN X Wx (.Dict [] [] pos) (ePure (.dct [])) := ⟨pe_imp pe_dnewX fun σ H Q ⟨H0, Γ, w, W, wr, s, p⟩ q hq => by
  obtain ⟨f0, n0⟩ := wr.fresh hq wr.len
  exact p _ W (Grow.lay hq) (wr.lay hq) q (.ext (phiR q [])) upd_same ⟨q, [], rfl, (fun p hp => by cases hp), Nat.zero_le _, by show RepT _ _ _ [] []; rw [RepT]⟩ f0 n0 hq⟩
/-! ### ranges as arguments -/
def rgOk (i j : Int) : Bool := in62 i && in62 j && decide ((j - i).toNat ≤ 2 ^ 24)
def rgD (i j : Int) : Option (List D) := if rgOk i j = true then some (rangeD i (j - i).toNat) else none
theorem reps_rg {K : PySem.W.Frag} {mg : Str → Option Value} {W : Wst} (i j : Int) : Reps K mg W (rangeD i (j - i).toNat) (rgV i j) := by
  unfold rangeD rgV
  rw [show (fun (k : Nat) => D.int (i + (k : Nat))) = (D.int ∘ fun (k : Nat) => i + (k : Nat)) from rfl, show (fun (k : Nat) => V.int (i + (k : Nat))) = (V.int ∘ fun (k : Nat) => i + (k : Nat)) from rfl, ← List.map_map, ← List.map_map]
  exact Reps.ints _
theorem rgOk_of {i j : Int} (h : rgOk i j = true) : RgOk i j := by
  unfold rgOk at h
  rw [Bool.and_eq_true, Bool.and_eq_true] at h
  exact ⟨(of_in62 h.1.1).1, (of_in62 h.1.1).2, (of_in62 h.1.2).1, (of_in62 h.1.2).2, of_decide_eq_true h.2⟩
/-- an expression that makes a range, data: its two bounds -/
structure DRg (X : Cx) (Wx : WX') (e : Expr) (f : EX (Int × Int)) : Prop where
  pr : PRg X e (fun σ H Q => ∃ H0 Γ w W, WR X.K X.mg w H W ∧ SR X.K X.mg H0 Γ σ H W ∧ Post X.K X.mg (fun c o H => Wx c o σ H) W H (f Γ w) fun p w' H' W' => Q p.1 p.2 H')
def eR1 (f : EX D) : EX (Int × Int) := eBind f fun d _ => M.ofOption (match d with
  | .int n => some (0, n)
  | _ => none)
def eR2 (f g : EX D) : EX (Int × Int) := eBind f fun d => eBind g fun d2 => fun _ => M.ofOption (match d, d2 with
  | .int i, .int j => some (i, j)
  | _, _ => none)
theorem drg_1 (hg : Gl X "range") (hm : X.mg "range" = none) (ha : DP X Wx a ea) (na : starEach [a] X.env = (false, eval a X.env) :: starEach [] X.env := by rfl) : DRg X Wx (.Call (.Name "range" p) [a] [] pos) (eR1 ea) := ⟨fun pins s σ H Q I ⟨H0, Γ, w, W, wr, sr, p⟩ => prg_1 hg hm ha.pe na pins s σ H Q I (by
  refine ⟨H0, Γ, w, W, wr, sr, (Post.bind p).mono fun d w1 H1 W1 g1 r1 p1 v c => ?_⟩
  obtain ⟨o, z, q⟩ := Post.opt p1
  cases d with
  | int n => cases z; exact ⟨n, c.int, q H1 W1 (Grow.refl _ _) r1⟩
  | _ => cases z)⟩
theorem drg_2 (hg : Gl X "range") (hm : X.mg "range" = none) (ha : DP X Wx a ea) (hb : DP X Wx b eb) (na : starEach [a, b] X.env = (false, eval a X.env) :: starEach [b] X.env := by rfl) (nb : starEach [b] X.env = (false, eval b X.env) :: starEach [] X.env := by rfl) (hp : (backTo pos (starEach [b] X.env)).any (·.1) = false := by rfl) :
    DRg X Wx (.Call (.Name "range" p) [a, b] [] pos) (eR2 ea eb) := ⟨fun pins s σ H Q I ⟨H0, Γ, w, W, wr, sr, p⟩ => prg_2 hg hm ha.pe hb.pe na nb hp pins s σ H Q I (by
  refine ⟨H0, Γ, w, W, wr, sr, (Post.bind p).mono fun d w1 H1 W1 g1 r1 p1 v c => ?_⟩
  refine ⟨H0, Γ, w1, W1, r1, sr.grow g1, (Post.bind p1).mono fun d2 w2 H2 W2 g2 r2 p2 v2 c2 => ?_⟩
  obtain ⟨o, z, q⟩ := Post.opt p2
  cases d with
  | int i =>
    cases d2 with
    | int j => cases z; exact ⟨i, j, c.int, c2.int, q H2 W2 (Grow.refl _ _) r2⟩
    | _ => cases z
  | _ => cases z)⟩
def eLRg (f : EX (Int × Int)) : EX D := eBind f fun p _ => M.ofOption ((rgD p.1 p.2).map .lst)
def eTRg (f : EX (Int × Int)) : EX D := eBind f fun p _ => M.ofOption ((rgD p.1 p.2).map .tup)
theorem dn_listRg {f : EX (Int × Int)} (hc : X.calm = true) (hg : Gl X "list") (hm : X.mg "list" = none) (h : DRg X Wx e f) (na : starEach [e] X.env = (false, eval e X.env) :: starEach [] X.env := by rfl) : DN X Wx (.Call (.Name "list" p) [e] [] pos) (eLRg f) := ⟨pe_imp (pe_listRg hc hg hm h.pr na) fun σ H Q ⟨H0, Γ, w, W, wr, s, p⟩ => by
  refine ⟨H0, Γ, w, W, wr, s, (Post.bind p).mono fun d w1 H1 W1 g1 r1 p1 => ?_⟩
  obtain ⟨o, z, q⟩ := Post.opt p1
  obtain ⟨i, j⟩ := d
  unfold rgD at z
  dsimp only at z
  split at z
  · rename_i hh
    cases z
    refine ⟨rgOk_of hh, fun l hl => ?_⟩
    obtain ⟨f0, n0⟩ := r1.fresh hl r1.len
    exact q _ W1 (Grow.lay hl) (r1.lay hl) l (.lst (rgV i j)) upd_same (reps_rg i j) f0 n0 (newAt g1 r1 hl)
  · cases z⟩
theorem df_tupRg {f : EX (Int × Int)} (hc : X.calm = true) (hg : Gl X "tuple") (hm : X.mg "tuple" = none) (h : DRg X Wx e f) (na : starEach [e] X.env = (false, eval e X.env) :: starEach [] X.env := by rfl) : DF X Wx (.Call (.Name "tuple" p) [e] [] pos) (eTRg f) := ⟨pe_imp (pe_tupRgM hc hg hm h.pr na) fun σ H Q ⟨H0, Γ, w, W, wr, s, p⟩ => by
  refine ⟨H0, Γ, w, W, wr, s, (Post.bind p).mono fun d w1 H1 W1 g1 r1 p1 => ?_⟩
  obtain ⟨o, z, q⟩ := Post.opt p1
  obtain ⟨i, j⟩ := d
  unfold rgD at z
  dsimp only at z
  split at z
  · rename_i hh
    cases z
    refine ⟨rgOk_of hh, fun l ob hl hcl hdi => ?_⟩
    obtain ⟨W3, g3, r3, c3⟩ := new_tupM r1 hl hcl hdi (reps_rg i j)
    exact q _ W3 g3 r3 _ c3
  · cases z⟩
/-! ### sorted(xs, reverse=b) -/
def eSortR (f g : EX D) : EX D := eBind f fun d => eBind g fun r => fun _ => M.ofOption (match r with
  | .bl b => bSorted b [d]
  | _ => none)
theorem dn_sortR {kp : Pos} (hu : X.A.units + 66 < cLine) (hg : Gl X "sorted") (hm : X.mg "sorted" = none) (ha : DP X Wx a ea) (hb : DP X Wx b eb)
    (he : backTo pos (starEach (a :: []) X.env) = (false, eval a X.env) :: backTo pos (starEach [] X.env) := by rfl) (hs : starEach (a :: []) X.env = (false, eval a X.env) :: starEach [] X.env := by rfl) (hpl : (backTo pos (starEach (a :: []) X.env)).any (·.1) = false := by rfl)
    (hall : (backToKw pos (keywordEach [⟨some "reverse", b, kp⟩] X.env)).all (·.1.isSome) = true := by rfl) (hnone : (backToKw pos (keywordEach [⟨some "reverse", b, kp⟩] X.env)).any (·.1.isNone) = false := by rfl) (hks : (backToKw pos (keywordEach [⟨some "reverse", b, kp⟩] X.env)).filterMap (·.1) = [("reverse" : Str)] := by rfl) :
    DN X Wx (.Call (.Name "sorted" p) [a] [⟨some "reverse", b, kp⟩] pos) (eSortR ea eb) := ⟨pe_imp (pe_callBK (cr_sortR hu) hg hm (by kernel_rfl) (pa_cons ha.pe pa_nil hs) (pk_cons hb.pe pk_nil) (by decide) (by decide) he hpl hall hnone hks) fun σ H Q ⟨H0, Γ, w, W, wr, s, p⟩ => by
  refine ⟨H0, Γ, w, W, wr, s, (Post.bind p).mono fun d w1 H1 W1 g1 r1 p1 v c => ?_⟩
  refine ⟨H0, Γ, w1, W1, r1, s.grow g1, (Post.bind p1).mono fun d2 w2 H2 W2 g2 r2 p2 v2 c2 => ?_⟩
  obtain ⟨o, z, q⟩ := Post.opt p2
  cases d2 with
  | bl bb =>
    have z : (lsD d).bind (dSort bb) = some o := z
    have c := c.grow g2
    cases zl : lsD d with
    | none => rw [zl] at z; cases z
    | some ds =>
      rw [zl] at z
      have z : (if sortOk ds = true then some (D.lst (isort (sLe bb) ds)) else none) = some o := z
      split at z
      · rename_i hk
        cases z
        obtain ⟨a, us, ex, rp, qa, _⟩ := c.sqL r2 zl
        refine ⟨bb, by rw [c2.bl], a, us, ds, W2, w2, by rw [ex], qa, r2, rp, sortOk_of hk, fun ys l ry hl => ?_⟩
        obtain ⟨f0, n0⟩ := r2.fresh hl r2.len
        exact q _ W2 (Grow.lay hl) (r2.lay hl) l (.lst ys) upd_same ry f0 n0 (newAt (g1.trans g2) r2 hl)
      · cases z
  | _ => cases z⟩
/-! ### dict(pairs) -/
def pairD : D → Option (D × D)
  | .tup [k, v] => if (toKey k).isSome = true then some (k, v) else none
  | _ => none
def pairsD : List D → Option (List (D × D))
  | [] => some []
  | d :: r => (pairD d).bind fun p => (pairsD r).map (p :: ·)
def dkMerge (kvs more : List (D × D)) : List (D × D) := more.foldl (fun acc p => dkPut acc p.1 p.2) kvs
def bDict : List D → Option D
  | [d] => (lsD d).bind fun ds => (pairsD ds).map fun ps => .dck (dkMerge [] ps)
  | _ => none
theorem pairsD_rep {K : PySem.W.Frag} {mg : Str → Option Value} {W : Wst} {H : Hp} {w : Wd} (wr : WR K mg w H W) : ∀ {ds : List D} {ps : List (D × D)} {vs : List V}, pairsD ds = some ps → Reps K mg W ds vs → ∃ (as : List Addr) (kvs : List (Key × V)), vs = as.map V.ref ∧ Paired (fun p kv => SqT K H p [kV kv.1, kv.2]) as kvs ∧ RepK K mg W ps kvs
  | [], ps, vs, e, r => by
    cases e
    rw [Reps] at r
    exact ⟨[], [], r, .nil, by rw [RepK]⟩
  | d :: ds, ps, vs, e, r => by
    rw [Reps] at r
    obtain ⟨v, t, ev, q, r⟩ := r
    subst ev
    have e : (pairD d).bind (fun p => (pairsD ds).map (p :: ·)) = some ps := e
    cases z : pairD d with
    | none => rw [z] at e; cases e
    | some p =>
      cases z2 : pairsD ds with
      | none => rw [z, z2] at e; cases e
      | some ps' =>
        rw [z, z2] at e
        cases e
        obtain ⟨as, kvs, h1, h2, h3⟩ := pairsD_rep wr z2 r
        unfold pairD at z
        split at z
        · rename_i k y
          split at z
          · rename_i hk
            cases z
            obtain ⟨q', hq⟩ := Option.isSome_iff_exists.mp hk
            have ek := toKey_keyD hq
            subst ek
            rw [Rep] at q
            obtain ⟨a, us, e1, e2, e3⟩ := q
            rw [Reps] at e3
            obtain ⟨v1, t1, e4, e5, e6⟩ := e3
            rw [Reps] at e6
            obtain ⟨v2, t2, e7, e8, e9⟩ := e6
            rw [Reps] at e9
            subst e1 e4 e7 e9
            have ek := Rep.key e5
            subst ek
            refine ⟨a :: as, (q', v2) :: kvs, by rw [h1]; rfl, .cons ((e2.le wr.sub).sq) h2, ?_⟩
            rw [RepK]
            exact ⟨q', v2, kvs, rfl, rfl, e8, h3⟩
          · cases z
        · cases z
theorem RepK.merge {K : PySem.W.Frag} {mg : Str → Option Value} {W : Wst} : ∀ {more kvs : List (D × D)} {mk kk : List (Key × V)}, RepK K mg W more mk → RepK K mg W kvs kk → RepK K mg W (dkMerge kvs more) (mergeK kk mk)
  | [], kvs, mk, kk, h, h' => by rw [RepK] at h; subst h; exact h'
  | (k, d) :: r, kvs, mk, kk, h, h' => by
    rw [RepK] at h
    obtain ⟨q, v, t, e, e2, x, y⟩ := h
    subst e e2
    show RepK K mg W (dkMerge (dkPut kvs (keyD q) d) r) (mergeK (putK kk q v) t)
    exact RepK.merge y (h'.put q x)
theorem dcln_dict (hc : X.calm = true) : DClN X (.type "dict") bDict := by
  refine ⟨_, call_dictP hc, fun w H W ds d vs Q wr c e q => ?_⟩
  unfold bDict at e
  split at e
  · rename_i d0
    obtain ⟨v, rfl, cv⟩ := paired1 c
    cases z : lsD d0 with
    | none => rw [z] at e; cases e
    | some ds =>
      rw [z] at e
      have e : (pairsD ds).map (fun ps => D.dck (dkMerge [] ps)) = some d := e
      cases z2 : pairsD ds with
      | none => rw [z2] at e; cases e
      | some ps =>
        rw [z2] at e
        cases e
        obtain ⟨a, us, ex, rp, qa, _⟩ := cv.sqL wr z
        obtain ⟨as, kvs, h1, h2, h3⟩ := pairsD_rep wr z2 rp
        subst h1
        exact ⟨a, as, kvs, by rw [ex], qa, h2, fun p hp => q p (.dK (mergeK [] kvs)) hp (RepK.merge h3 (by rw [RepK]))⟩
  · cases e
/-! ### sorted(d), int keys -/
def bSortDI : List D → Option D
  | [.dck kvs] => (intsD (kvs.map (·.1))).bind fun ns => if ns.length < 64 then some (.lst ((isort (fun a b => decide (a ≤ b)) ns).map .int)) else none
  | _ => none
theorem le_total' : PySem.W.TotalLe (fun (a b : Int) => decide (a ≤ b)) where
  trans := fun a b c h1 h2 => by
    have h1 := of_decide_eq_true h1
    have h2 := of_decide_eq_true h2
    exact decide_eq_true (by omega)
  total := fun a b => by
    by_cases h : a ≤ b
    · exact .inl (decide_eq_true h)
    · exact .inr (decide_eq_true (by omega))
theorem perm_sorted : ∀ {l m : List Int}, l.Perm m → l.Pairwise (· ≤ ·) → m.Pairwise (· ≤ ·) → l = m := fun {l m} hp h1 h2 => List.Perm.eq_of_pairwise (fun a b _ _ h1 h2 => Int.le_antisymm h1 h2) h1 h2 hp
theorem isort_int (ns ys : List Int) (hp : ys.Perm ns) (hs : ys.Pairwise (· ≤ ·)) : ys = isort (fun a b => decide (a ≤ b)) ns := by
  refine perm_sorted (hp.trans (isort_perm _ ns).symm) hs ?_
  exact (isort_pair le_total' ns).imp fun h => of_decide_eq_true h
theorem keysI {K : PySem.W.Frag} {mg : Str → Option Value} {W : Wst} : ∀ {kvs : List (D × D)} {kk : List (Key × V)} {ns : List Int}, RepK K mg W kvs kk → kvs.map (·.1) = ns.map D.int → kk.map (·.1) = ns.map Sum.inl
  | [], kk, ns, h, e => by
    rw [RepK] at h; subst h
    cases ns with
    | nil => rfl
    | cons _ _ => cases e
  | (k, d) :: r, kk, ns, h, e => by
    rw [RepK] at h
    obtain ⟨q, v, t, e1, e2, x, y⟩ := h
    subst e1 e2
    cases ns with
    | nil => cases e
    | cons n ns =>
      rw [List.map_cons, List.map_cons] at e
      have e1 := (List.cons.inj e).1
      have e2 := (List.cons.inj e).2
      rw [List.map_cons, List.map_cons, keysI y e2]
      cases q with
      | inl i => cases e1; rfl
      | inr s => cases e1
theorem dcln_sortDI (hc : X.calm = true) : DClN X (.builtin "sorted") bSortDI := by
  refine ⟨_, call_sortedDI hc, fun w H W ds d vs Q wr c e q => ?_⟩
  unfold bSortDI at e
  split at e
  · rename_i kvs
    obtain ⟨v, rfl, cv⟩ := paired1 c
    cases z : intsD (kvs.map (·.1)) with
    | none => rw [z] at e; cases e
    | some ns =>
      rw [z] at e
      have e : (if ns.length < 64 then some (D.lst ((isort (fun a b => decide (a ≤ b)) ns).map .int)) else none) = some d := e
      split at e
      · rename_i hl
        cases e
        obtain ⟨a, ex, kk, qa, rp⟩ := cv.dck wr
        refine ⟨a, kk, ns, by rw [ex], qa, keysI rp (intsD_map z), hl, fun ys p hp hs hn => ?_⟩
        rw [isort_int ns ys hp hs]
        exact q p (.lst _) hn (Reps.ints _)
      · cases e
  · cases e
/-- sorted of a list, or of a dict's int keys -/
def bSortA (ds : List D) : Option D := (bSorted false ds).or (bSortDI ds)
theorem dcln_sortA (hc : X.calm = true) (hu : X.A.units + 66 < cLine) : DClN X (.builtin "sorted") bSortA := (dcln_sorted hu).or (dcln_sortDI hc)
end
end DL

set_option Elab.async false
set_option linter.all false
set_option maxRecDepth 100000
set_option maxHeartbeats 4000000
namespace DL
open PySem PySem.Spec PyProof.Rows L2

/-! ### {k: v for ..} -/
def eDcL (tg : FT) (tt : EX Bool) (tk tv : EX D) (Γ : Ev) : List D → List (D × D) → M (List (D × D))
  | [], acc => M.pure acc
  | d :: ds, acc => match tg d Γ with
    | some Γ1 => (M.noexc (tt Γ1)).bind fun b => if b = true then (M.noexc (tk Γ1)).bind fun k => (M.noexc (tv Γ1)).bind fun v => (if (toKey k).isSome = true ∧ acc.length < sizeLine then eDcL tg tt tk tv Γ ds (dkPut acc k v) else M.stuck) else eDcL tg tt tk tv Γ ds acc
    | none => M.stuck
def eDc (fi : EX (List D)) (vs : List Nat) (tg : FT) (tt : EX Bool) (tk tv : EX D) : EX D := fun Γ => (fi Γ).bind fun ds => (eDcL tg tt tk tv (wipeE Γ vs) ds []).bind fun ys => M.pure (.dck ys)
section
variable {X : Cx} {Wx : WX'} {kx vx tg iter : Expr} {ifs : List Expr} {scope : Scope} {own : List (Str × Nat)} {fi : EX (List D)} {ft : FT} {tt : EX Bool} {tk tv : EX D} {is : List Nat} {pos : Pos}
theorem dc_run {σ : L2.St} {H : Hp} {Q : VK} {vs : List Nat} (hsub : ∀ i ∈ is, i ∈ vs) (hw : tN X.K X.mg Wx (eDc fi vs ft tt tk tv) σ H Q) :
    tDc (tIP X.K X.mg Wx fi) (tG X.K X.mg is ft) (tB X.K X.mg Wno tt) (tF X.K X.mg Wno tk) (tF X.K X.mg Wno tv) vs σ H Q := by
  obtain ⟨H0, Γ, w, W, wr, s, p⟩ := hw
  refine ⟨H0, Γ, w, W, wr, s, (Post.bind p).mono fun ds w1 H1 W1 g1 r1 p1 J hJ D hD => ?_⟩
  obtain ⟨f0, n0⟩ := r1.fresh hD r1.len
  have hDH : H D = none := newAt g1 r1 hD
  let PP : DL.D → Wd → Hp → Wst → Prop := fun d w' H' W' => ∀ a o, H' a = some o → RepO X.K X.mg W' d o → W'.F a = none → (∀ (n : Nat), W'.ads[n]? ≠ some a) → H a = none → Q (.ref a) H'
  let Pv : Nat → Nat → Hp → Prop := fun i m H' => m = ds.length - i ∧ i ≤ ds.length ∧ ∃ acc ys w' W', Grow W1 H1 W' H' ∧ WR X.K X.mg w' H' W' ∧ H' D = some (.dK acc) ∧ RepK X.K X.mg W' ys acc ∧ W'.F D = none ∧ (∀ (n : Nat), W'.ads[n]? ≠ some D) ∧
    Post X.K X.mg (fun c o H => Wx c o σ H) W1 H1 (eDcL ft tt tk tv (wipeE Γ vs) (ds.drop i) ys w') (fun zs w'' H'' W'' => PP (.dck zs) w'' H'' W'')
  refine ⟨Pv, ⟨ds.length, by simp, Nat.zero_le _, [], [], w1, W1, Grow.lay hD, r1.lay hD, upd_same, by rw [RepK], f0, n0, ?_⟩, ?_⟩
  · rw [List.drop_zero]
    exact (Post.bind p1).mono fun zs w' H' W' g' r' q => q H' W' (Grow.refl _ _) r'
  rintro i m H2 ⟨rfl, hi, acc, ys, w2, W2, g2, r2, eD, ra, fD, nD, p2⟩
  have hat := hJ i w2 H2 W2 g2 r2
  by_cases hlt : i < ds.length
  · right
    have e1 : ds[i]? = some ds[i] := List.getElem?_eq_getElem hlt
    obtain ⟨go, yl⟩ := hat.1 _ e1
    refine ⟨go, fun H' => Pv (i + 1) (ds.length - (i + 1)) H', fun H' h => ⟨_, by omega, h⟩, fun x H3 hy => ?_⟩
    obtain ⟨W3, g3, r3, c3⟩ := yl x H3 hy
    rw [List.drop_eq_getElem_cons hlt] at p2
    unfold eDcL at p2
    have eD3 := g3.keep D _ eD nD
    have s3 := (((s.grow g1).grow g2).grow g3).wipe vs
    cases z : ft ds[i] (wipeE Γ vs) with
    | none => rw [z] at p2; exact p2.elim
    | some Γ3 =>
      rw [z] at p2
      dsimp only at p2
      refine ⟨H0, wipeE Γ vs, w2, W3, ds[i], Γ3, r3, s3, c3, z, fun σ3 s3' ch => ⟨wipe_eq ch hsub, ?_⟩⟩
      refine ⟨H0, Γ3, w2, W3, r3, s3', ?_⟩
      refine (Post.noexc (Post.later (g2.trans g3) (Post.bind' p2))).mono fun b w4 H4 W4 g4 r4 p5 => ?_
      have nD3 := g3.nad eD nD
      have fD3 := g3.nofz D _ eD trivial fD nD
      have eD4 := g4.keep D _ eD3 nD3
      have nD4 := g4.nad eD3 nD3
      have fD4 := g4.nofz D _ eD3 trivial fD3 nD3
      cases b with
      | false => exact ⟨rfl, hlt, acc, ys, w4, W4, (g2.trans g3).trans g4, r4, eD4, RepK.le (g3.le.trans g4.le) _ _ ra, fD4, nD4, p5⟩
      | true =>
        refine ⟨H0, Γ3, w4, W4, r4, s3'.grow g4, ?_⟩
        refine (Post.noexc (Post.later ((g2.trans g3).trans g4) (Post.bind' p5))).mono fun y w5 H5 W5 g5 r5 p6 v c6 => ?_
        have eD5 := g5.keep D _ eD4 nD4
        have nD5 := g5.nad eD4 nD4
        have fD5 := g5.nofz D _ eD4 trivial fD4 nD4
        refine ⟨H0, Γ3, w5, W5, r5, (s3'.grow g4).grow g5, ?_⟩
        refine (Post.noexc (Post.later (((g2.trans g3).trans g4).trans g5) (Post.bind' p6))).mono fun y2 w6 H6 W6 g6 r6 p7 v2 c7 => ?_
        have eD6 := g6.keep D _ eD5 nD5
        have nD6 := g6.nad eD5 nD5
        have fD6 := g6.nofz D _ eD5 trivial fD5 nD5
        have gg := (((g2.trans g3).trans g4).trans g5).trans g6
        split at p7
        rotate_left
        · exact p7.elim
        rename_i hh
        obtain ⟨q', hq⟩ := Option.isSome_iff_exists.mp hh.1
        have ek := toKey_keyD hq
        subst ek
        have ra6 := RepK.le (((g3.le.trans g4.le).trans g5.le).trans g6.le) _ _ ra
        refine ⟨acc, q', Rep.key c6, eD6, by rw [← ra6.length]; exact hh.2, rfl, hlt, putK acc q' v2, dkPut ys (keyD q') y2, w6, W6, ?_, ?_, upd_same, ra6.put q' c7, fD6, nD6, p7⟩
        · refine ⟨gg.le, fun a o e n => ?_, gg.nofz, gg.noad⟩
          rw [upd_ne (ne_of_none e hD)]
          exact gg.keep a o e n
        · exact r6.mut fD6 nD6
  · left
    have e : i = ds.length := by omega
    subst e
    rw [List.drop_length] at p2
    refine ⟨hat.2 (Nat.le_refl _), ?_⟩
    exact p2 H2 W2 g2 r2 D (.dK acc) eD ra fD nD hDH
theorem dn_dc (hc : X.calm = true) (hN : X.N.Nodup) (hi : DIP X Wx tg iter fi) (ok : BlkOk X.N X.env.scope scope own) (hsub : ∀ i ∈ is, i ∈ own.map (·.2))
    (hg : ∀ (s : Shared) (H : Hp) (C : Addr) (cl : List (Str × Addr)) (fp : List Addr), DG (X.blk s H scope (compEnvC scope cl C X.env) fp) tg is ft) (ht : ∀ (s : Shared) (H : Hp) (C : Addr) (cl : List (Str × Addr)) (fp : List Addr), DTs (X.blk s H scope (compEnvC scope cl C X.env) fp) Wno ifs tt)
    (hk : ∀ (s : Shared) (H : Hp) (C : Addr) (cl : List (Str × Addr)) (fp : List Addr), DF (X.blk s H scope (compEnvC scope cl C X.env) fp) Wno kx tk)
    (he : ∀ (s : Shared) (H : Hp) (C : Addr) (cl : List (Str × Addr)) (fp : List Addr), DF (X.blk s H scope (compEnvC scope cl C X.env) fp) Wno vx tv) (hs : ∀ x, foldedSetIterable iter X.env x = pure x := by intro _; rfl) :
    DN X Wx (.DictComp kx vx [⟨tg, iter, ifs, 0⟩] scope pos) (eDc fi (own.map (·.2)) ft tt tk tv) := ⟨pe_imp (pe_dc hc hN hi.pi ok (fun s H C cl fp => (hg s H C cl fp).pg) (fun s H C cl fp => (ht s H C cl fp).pts) (fun s H C cl fp => (hk s H C cl fp).pe) (fun s H C cl fp => (he s H C cl fp).pe) hs) fun σ H Q hw => dc_run hsub hw⟩
end
/-! ### xs.index(x) of a list -/
def idxD (ds : List D) (x : D) : Option Nat := ds.findIdx? fun z => PyData.eqv z.toPy x.toPy
def bIndex (d x : D) : Option D := (lsD d).bind fun ds => if SeqAt.shaped (.list (toPys ds)) && SeqAt.shaped x.toPy then (idxD ds x).map fun j => .int (j : Nat) else none
def isLs : D → Bool
  | .lst _ => true
  | .fls _ => true
  | _ => false
def eIndex (f g : EX D) : EX D := eBind f fun d => if isLs d = true then eBind g fun x => (fun _ => M.ofOption (bIndex d x)) else fun _ => M.stuck
section
variable {X : Cx} {Wx : WX'} {o e : Expr} {f g : EX D} {apos cpos : Pos}
theorem toPys_get : ∀ (ds : List D) (j : Nat), (toPys ds)[j]? = (ds[j]?).map D.toPy
  | [], j => by simp [toPys]
  | d :: ds, 0 => by simp [toPys]
  | d :: ds, j + 1 => by
    have := toPys_get ds j
    simpa [toPys] using this
theorem df_index (hu : X.A.units + 65 < cLine) (ho : DP X Wx o f) (hv : DP X Wx e g) (hbase : attributeBase o "index" X.env (eval o X.env) = eval o X.env := by rfl)
    (hfew : ((backTo cpos (starEach (e :: []) X.env)).all (fun x => !x.1) && (backToKw cpos (keywordEach [] X.env)).all (fun x => x.1.isSome)
      && decide ((e :: []).length + ([] : List Keyword).length + (if ([] : List Keyword).isEmpty then 0 else 1) < 30)) = true := by rfl)
    (hline : (apos.endLine == cpos.line) = true := by rfl) (hs : starEach (e :: []) X.env = (false, eval e X.env) :: starEach [] X.env := by rfl) (hplain : (backTo cpos (starEach [] X.env)).any (·.1) = false := by rfl) :
    DF X Wx (.Call (.Attribute o "index" apos) [e] [] cpos) (eIndex f g) := ⟨pe_imp (pe_bm PySem.F.plainAttrs_list PySem.F.slot_list_index PySem.F.type_list_index (mt_indexD hu) ho.pe (eArg_p hv hs) hbase hfew hline hs hplain) fun σ H Q ⟨H0, Γ, w, W, wr, s, p⟩ => by
  refine ⟨H0, Γ, w, W, wr, s, (Post.bind p).mono fun d w1 H1 W1 g1 r1 p1 v c => ?_⟩
  dsimp only at p1
  split at p1
  rotate_left
  · exact p1.elim
  rename_i hl
  have hls : ∃ ds, lsD d = some ds := by
    cases d with
    | lst ds => exact ⟨ds, rfl⟩
    | fls ds => exact ⟨ds, rfl⟩
    | _ => cases hl
  obtain ⟨ds, zl⟩ := hls
  obtain ⟨a, vs, ex, rp, qa, _⟩ := c.sqL r1 zl
  refine ⟨by rw [ex]; exact .inl ⟨rfl, vs, qa⟩, H0, Γ, w1, W1, r1, s.grow g1, (Post.bind p1).mono fun x w2 H2 W2 g2 r2 p2 v2 c2 => ?_⟩
  obtain ⟨r, z, q⟩ := Post.opt p2
  have q := q H2 W2 (Grow.refl _ _) r2
  unfold bIndex at z
  rw [zl] at z
  have z : (if SeqAt.shaped (.list (toPys ds)) && SeqAt.shaped x.toPy then (idxD ds x).map fun j => D.int (j : Nat) else none) = some r := z
  split at z
  · rename_i hh
    rw [Bool.and_eq_true] at hh
    cases zi : idxD ds x with
    | none => rw [zi] at z; cases z
    | some j =>
      rw [zi] at z
      cases z
      have cd := c.grow g2
      have dp1 : Dp X.K H2 v (.list (toPys ds)) := by
        have e : d.toPy = .list (toPys ds) := by
          cases d with
          | lst es => cases zl; rfl
          | fls es => cases zl; rfl
          | _ => cases zl
        rw [← e]
        exact cd.dp r2 (by rw [e]; exact SeqAt.canLay_of_shaped hh.1)
      rw [ex] at dp1
      unfold idxD at zi
      rw [List.findIdx?_eq_some_iff_getElem] at zi
      obtain ⟨hj, h1, h2⟩ := zi
      refine ⟨a, v2, x.toPy, toPys ds, j, ds[j].toPy, ex, rfl, dp1, c2.dp r2 (SeqAt.canLay_of_shaped hh.2), hh.1, hh.2, by rw [toPys_get, List.getElem?_eq_getElem hj]; rfl, h1, fun m z' hm hz => ?_, q _ (by rw [Rep])⟩
      rw [toPys_get, List.getElem?_eq_getElem (by omega)] at hz
      cases hz
      have := h2 m hm
      simpa using this
  · cases z⟩
end
end DL

set_option Elab.async false
set_option linter.all false
set_option maxRecDepth 100000
set_option maxHeartbeats 4000000
namespace DL
open PySem PySem.Spec PyProof.Rows L2 PySem.Calls PySem.W

/-! ### the end: the law's def, called with a script -/
section
variable {P : Program} {w : World} {K : PySem.W.Frag} {mg mb : Str → Option Value} {k : Nat} {fa a : Addr} {g : Fn} {t : Shared} {us : List Value} {ns : List Int}
abbrev Ends1 (t s' : Shared) (r : Result) : Prop := r = .ok (.ret (.bool true)) ∧ OldK t.heap s'.heap ∧ s'.os = t.os ∧ AllBare s'.gens
/-- the def's answer to a script, whatever stands in the heap -/
theorem script_sp {H : Hp} (hs : SqL K H a (ns.map V.int)) (he : ∃ w', g [.fls (ns.map D.int)] [] = .ok (.bl true) w') : spD K mg 1 g [.ref a] H (fun v _ => v = .bl true) fun _ _ _ => False := by
  obtain ⟨w', e⟩ := he
  refine ⟨rfl, [.fls (ns.map D.int)], [], ⟨H, []⟩, ⟨fun _ _ z => z, rfl, fun n b ds z => by simp at z, fun n b z => by simp at z, fun m n b z => by simp at z⟩, Reps.cons ?_ Reps.nil, ?_⟩
  · rw [Rep]
    exact ⟨a, ns.map V.int, rfl, hs, Reps.ints ns⟩
  · rw [e]
    intro H' W' _ _ v c
    rw [Rep] at c
    exact c
/-- from an abstract heap that tracks the script alone, or nothing -/
theorem end_core {H : Hp} (hK : K.In t.heap) (hM : t.heap.Ns mainGlobals mg) (hB : t.heap.Ns builtinsNs mb) (hBt : ∀ x : Str, x ≠ "__name__" → mb x = bootBuiltins x) (hL : t.heap.NoLimit) (hG : t.gens = #[])
    (ho : t.heap.get? a = some { cls := .type "list", data := .seq us.toArray }) (hr : Room k callerA) (hgd : callerA.guards = some [])
    (F : ∀ base : Heap, K.In base → base.Ns mainGlobals mg → FnG P w K mg base k fa (spD K mg 1 g)) (he : ∃ w', g [.fls (ns.map D.int)] [] = .ok (.bl true) w')
    (h1 : Only H) (h2 : SqL K H a (ns.map V.int)) (h3 : HOk P w H t.heap) (h4 : ∀ b, H b ≠ none → b = a) (h5 : H a ≠ none → K.lookup a = none) :
    codeAny (model P w) callerA (.call (.ref fa) ⟨[.ref a], []⟩) (fun r s' => Ends1 t s' r) t := by
  have shown : ∀ {b : Addr} {o : Obj}, t.heap.get? b = some o → H b = none → (hidT t.heap H).get? b = some o := fun e n => hidT_get e n
  have dicts : ∀ {b : Addr} {o : Obj} {es : Array DictEntry} {ep : Nat}, t.heap.get? b = some o → o.data = .dict es ep → H b = none := by
    intro b o es ep e d
    by_cases hb : H b = none
    · exact hb
    · exfalso
      rw [h4 b hb, ho] at e
      cases e
      have d : Data.seq us.toArray _ = Data.dict es ep := d
      cases d
  have spaces : ∀ {b : Addr} {m : Str → Option Value}, t.heap.Ns b m → (hidT t.heap H).Ns b m := by
    rintro b m ⟨o, es, ep, e, d, r⟩
    exact ⟨o, es, ep, shown e (dicts e d), d, r⟩
  have kin : K.In (hidT t.heap H) := by
    intro b o e
    refine shown (hK b o e) ?_
    by_cases hb : H b = none
    · exact hb
    · exfalso
      have eb := h4 b hb
      subst eb
      rw [h5 hb] at e; cases e
  have lim : (hidT t.heap H).NoLimit := by
    obtain ⟨mc, x, y⟩ := hL
    exact ⟨mc, spaces x, y⟩
  have en : Env0 P w K mg (hidT t.heap H) callerA [] t H := by
    refine ⟨rfl, ⟨kin, spaces hM, ⟨mb, spaces hB, hBt⟩, lim⟩, fun b o e => of_hidT e, Nat.le_of_eq (hidT_size _ _), trivial, fun b hb => ?_, h3, .of_eq hG⟩
    have hb : b ∈ ([] : List Addr) := hb
    cases hb
  refine codeAny_mono (F _ kin (spaces hM) callerA [] t H [.ref a] [.ref a] _ _ hgd hr en (.cons rfl .nil) (script_sp h2 he)) fun r s' hq => ?_
  match r, hq with
  | .error e, ⟨_, _, _, _, _, _, _, _, _, _, _, _, z⟩ => exact z.elim
  | .ok (.ret u), ⟨v, H', os, bare, un, hok', r', q⟩ =>
    have q : v = .bl true := q
    subst q
    have r' : u = Value.bool true := r'
    subst r'
    refine ⟨rfl, OldK.of_keep fun b o e => ?_, os, bare⟩
    rcases h1 b with z | ⟨ob, xs, z⟩
    · refine un.keep b o e z (fun hb => ?_) (by simp)
      have hb : b ∈ ([] : List Addr) := hb
      cases hb
    · obtain ⟨e1, _⟩ := h3 b _ z
      obtain ⟨e2, _⟩ := hok' b _ (un.frzs b ob _ z)
      rw [e] at e1
      cases e1
      exact e2
theorem end_call (hK : K.In t.heap) (hM : t.heap.Ns mainGlobals mg) (hB : t.heap.Ns builtinsNs mb) (hBt : ∀ x : Str, x ≠ "__name__" → mb x = bootBuiltins x) (hL : t.heap.NoLimit) (hG : t.gens = #[])
    (ho : t.heap.get? a = some { cls := .type "list", data := .seq us.toArray }) (hi : IntsAre us ns) (hz : ns.length ≤ sizeLine) (hr : Room k callerA) (hgd : callerA.guards = some [])
    (F : ∀ base : Heap, K.In base → base.Ns mainGlobals mg → FnG P w K mg base k fa (spD K mg 1 g)) (he : ∃ w', g [.fls (ns.map D.int)] [] = .ok (.bl true) w') :
    codeAny (model P w) callerA (.call (.ref fa) ⟨[.ref a], []⟩) (fun r s' => Ends1 t s' r) t := by
  have rv := vals_ints hi
  cases hk : K.lookup a with
  | some o =>
    have e := hK a o hk
    rw [ho] at e
    cases e
    have lu : us.toArray.size ≤ sizeLine := by rw [List.size_toArray, hi.length]; exact hz
    exact end_core (H := fun _ => none) hK hM hB hBt hL hG ho hr hgd F he (fun _ => .inl rfl) (.inr ⟨_, us.toArray, _, hk, rfl, rfl, rfl, lu, by simpa using rv⟩) (fun b u z => by cases (show (none : Option HO) = some u from z)) (fun b z => (z rfl).elim) fun z => (z rfl).elim
  | none =>
    let o : Obj := { cls := .type "list", data := .seq us.toArray }
    have at_a : (fun b => if b = a then some (HO.frz o (.lst (ns.map V.int))) else none) a = some (HO.frz o (.lst (ns.map V.int))) := if_pos rfl
    have off : ∀ b, b ≠ a → (fun b => if b = a then some (HO.frz o (.lst (ns.map V.int))) else none) b = none := fun b hb => if_neg hb
    refine end_core (H := fun b => if b = a then some (HO.frz o (.lst (ns.map V.int))) else none) hK hM hB hBt hL hG ho hr hgd F he (fun b => ?_) (.inl (.inr ⟨o, at_a⟩)) (fun b u z => ?_) (fun b z => ?_) fun _ => hk
    · by_cases hb : b = a
      · subst hb; exact .inr ⟨_, _, at_a⟩
      · exact .inl (off b hb)
    · by_cases hb : b = a
      · subst hb
        rw [at_a] at z
        cases z
        exact ⟨ho, by rw [List.length_map]; exact hz, us, _, rv, ho⟩
      · rw [off b hb] at z; cases z
    · by_cases hb : b = a
      · exact hb
      · exact (z (off b hb)).elim
end
/-- the law, from its def's promise -/
theorem walkG {l : PySem.W.OpenLaw} {n k : Nat} {q : Program} {loose : List Str} {XP : (Str → Option Value) → Heap → Prop} {YP : World → Heap → Prop} {d : DefRec}
    (hn : l.most = some n) (hn2 : n ≤ sizeLine) (hdf : d.params.defaults = []) (hr : Room k callerA) (hgd : callerA.guards = some [])
    (F : ∀ (w : World) (mg : Str → Option Value) (fa : Addr) (h : Heap), YP w h → h.Ns mainGlobals mg → mg d.name = some (.ref fa) →
      ∃ (K : PySem.W.Frag) (g : Fn), K.In h ∧ (∀ ns : List Int, ns.length ≤ n → ∃ w', g [.fls (ns.map D.int)] [] = .ok (.bl true) w') ∧ ∀ base : Heap, K.In base → base.Ns mainGlobals mg → FnG l.prog w K mg base k fa (spD K mg 1 g)) :
    PySem.W.WalkO q loose XP YP l.row.toRowW d [] (fun f vs => PySem.call f vs) := by
  refine Att.attach_call hn hdf ?_
  intro w s₀ t mg mb fa o pm cd doc a us ns G Y ho hd hcd hmg hobj hints hlen hgens
  obtain ⟨K, g, KX, hans, hF⟩ := F w mg fa _ Y G.T.g hmg
  exact end_call KX G.T.g G.T.b G.T.builtins G.T.nolimit hgens hobj hints (Nat.le_trans hlen hn2) hr hgd hF (hans ns hlen)
end DL

set_option Elab.async false
set_option linter.all false
set_option maxRecDepth 100000
set_option maxHeartbeats 4000000
namespace DL
open PySem PySem.Spec PyProof.Rows L2

/-- a def of the module keeps its promise -/
def Kp (P : Program) (w : World) (K : PySem.W.Frag) (mg : Str → Option Value) (base : Heap) (k : Nat) (x : Str) (n : Nat) (g : Fn) : Prop :=
  ∃ f : Addr, mg x = some (.ref f) ∧ PySem.W.keepIn K (.ref f) = true ∧ FnG P w K mg base k f (spD K mg n g)
/-- a def as the module has it -/
def Has (K : PySem.W.Frag) (mg : Str → Option Value) (x qual : Str) (st : Stmt) : Prop :=
  ∃ (f : Addr) (fd : FuncData), mg x = some (.ref f) ∧ FunD K x qual (defArgs st) (defBody st) (defScope st) [] [] f fd
theorem kp_def {P : Program} {w : World} {K : PySem.W.Frag} {mg : Str → Option Value} {base : Heap} {k : Nat} {x qual : Str} {st : Stmt} {N ps : List Str} {n m : Nat} {g : SX} (h : Has K mg x qual st) (S : FnScope N ps (defScope st)) (hN : N.length = n) (hm : ps.length = m) (hmn : m ≤ n)
    (hb : ∀ (kV doc pm : Value) (an : Option Addr) (cdv ct : Value) (us : List Value), us.length = ps.length → bindArgs (PySem.W.fnOf x qual (defArgs st) (defBody st) (defScope st) .none kV doc pm an cdv ct) ⟨us, []⟩ = pure (ps.zip us))
    (hbody : ∀ (f : Addr) (A : Around) (outer : List Env) (s : Shared) (H : Hp) (cdv : Value) (E : XK) (W : Wst), (cxOf (L2.CX P w) P w K mg base N qual (defScope st) f cdv A outer s H E).A.guards = some [] → Room k (cxOf (L2.CX P w) P w K mg base N qual (defScope st) f cdv A outer s H E).A →
      Takes (cxOf (L2.CX P w) P w K mg base N qual (defScope st) f cdv A outer s H E) (fun c d _ H => E c d H) →
      DSs (cxOf (L2.CX P w) P w K mg base N qual (defScope st) f cdv A outer s H E) (fun c d _ H => E c d H) H W (defBody st) g) : Kp P w K mg base (k + 1) x m (defOf n g) := by
  obtain ⟨f, fd, hx, F⟩ := h
  exact ⟨f, hx, F.kp, fn_def F S hN hm hmn (F.bindsN hb) fun A outer s H cdv E W hg hr => hbody f A outer s H cdv E W hg hr (takes_of rfl rfl rfl rfl)⟩
theorem Kp.mono {P : Program} {w : World} {K : PySem.W.Frag} {mg : Str → Option Value} {base : Heap} {j k : Nat} {x : Str} {n : Nat} {g : Fn} (h : Kp P w K mg base j x n g) (l : j ≤ k) : Kp P w K mg base k x n g := by
  obtain ⟨f, a, b, c⟩ := h
  exact ⟨f, a, b, c.mono l⟩
section
variable {X : Cx} {Wx : WX'} {k n j : Nat} {x : Str} {e : Expr} {es : List Expr} {g : Fn} {el : EX (List D)} {p pos : Pos}
theorem df_callK (h : Kp X.prog X.w X.K X.mg X.base j x n g) (hj : j ≤ k) (hgd : X.A.guards = some []) (hr : Room k X.A) (tk : Takes X Wx) (hg : Gl X x) (ha : DFs X Wx (e :: es) el) (hl : (e :: es).length = n) (hel : LenIs el n) (hdb : (x == ("__debug__" : Str)) = false := by decide)
    (he : starEach (e :: es) X.env = (false, eval e X.env) :: starEach es X.env := by rfl) (hpl : (backTo pos (starEach es X.env)).any (·.1) = false := by rfl) :
    DF X Wx (.Call (.Name x p) (e :: es) [] pos) (eCall g el) := by
  obtain ⟨f, a, b, c⟩ := h
  exact df_call c hgd (hr.mono hj) hg a b tk ha hl hel hdb he hpl
theorem tk_blk {X : Cx} {s : Shared} {H : Hp} {scope : Scope} {cenv : Env} {fp : List Addr} : Takes (X.blk s H scope cenv fp) Wno := fun u s' ⟨a, B, sI, pins, σ, H, cls, d, e, I, nb, up, sky, na, os, ag, z⟩ => z.elim
theorem ru {A : Around} (hr : Room k A) : A.units + 66 < cLine := by have := hr.un; omega
theorem ru65 {A : Around} (hr : Room k A) : A.units + 65 < cLine := by have := hr.un; omega
theorem ru64 {A : Around} (hr : Room k A) : A.units + 64 < cLine := by have := hr.un; omega
theorem ru1 {A : Around} (hr : Room k A) : A.units + 1 < cLine := by have := hr.un; omega
theorem callerA_g : callerA.guards = some [] := rfl
end
section
variable {X : Cx} {Wx : WX'} {H0 : Hp} {W0 : Wst} {e : Expr} {i : Nat} {x : Str} {f : EX D} {pos pos' : Pos}
/-- name = value -/
theorem d_set (hN : X.N.Nodup) (hv : DF X Wx e f) (hi : X.N[i]? = some x := by rfl) (hx : Loc X.env.scope x := by first | exact Or.inl rfl | exact Or.inr rfl) (hs : swapsWith e (some (.Name x pos')) pos.line X.env = pure false := by rfl) (hf : X.fn x = true ∨ X.env.scope.names.lookup x = some .local := by first | exact .inl rfl | exact .inr rfl) :
    DS X Wx H0 W0 (.Assign [.Name x pos'] e pos) (sSet i f) := ds_set (ps_set hN hi hx hv.pe hs hf) fun _ _ _ h => h
theorem d_setN (hN : X.N.Nodup) (hv : DN X Wx e f) (hi : X.N[i]? = some x := by rfl) (hx : Loc X.env.scope x := by first | exact Or.inl rfl | exact Or.inr rfl) (hs : swapsWith e (some (.Name x pos')) pos.line X.env = pure false := by rfl) (hf : X.fn x = true ∨ X.env.scope.names.lookup x = some .local := by first | exact .inl rfl | exact .inr rfl) :
    DS X Wx H0 W0 (.Assign [.Name x pos'] e pos) (sSetN i f) := ds_setN (ps_set hN hi hx hv.pe hs hf) fun _ _ _ h => h
theorem d_setLc {elt tg iter : Expr} {ifs : List Expr} {scope : Scope} {own : List (Str × Nat)} {fi : EX (List D)} {ft : FT} {tt : EX Bool} {te : EX D} {is : List Nat} {lpos : Pos} (hN : X.N.Nodup) (hc : X.calm = true) (hsw : swapsWith (.ListComp elt [⟨tg, iter, ifs, 0⟩] scope lpos) (some (.Name x pos')) pos.line X.env = pure true)
    (hi : DIP X Wx tg iter fi) (ok : BlkOk X.N X.env.scope scope own) (hsub : ∀ i ∈ is, i ∈ own.map (·.2))
    (hg : ∀ (s : Shared) (H : Hp) (C : Addr) (cl : List (Str × Addr)) (fp : List Addr), DG (X.blk s H scope (compEnvC scope cl C X.env) fp) tg is ft) (ht : ∀ (s : Shared) (H : Hp) (C : Addr) (cl : List (Str × Addr)) (fp : List Addr), DTs (X.blk s H scope (compEnvC scope cl C X.env) fp) Wno ifs tt)
    (he : ∀ (s : Shared) (H : Hp) (C : Addr) (cl : List (Str × Addr)) (fp : List Addr), DF (X.blk s H scope (compEnvC scope cl C X.env) fp) Wno elt te)
    (hy : X.N[i]? = some x := by rfl) (hyl : X.env.scope.names.lookup x = some .local := by rfl) (hs : ∀ x, foldedSetIterable iter X.env x = pure x := by intro _; rfl) :
    DS X Wx H0 W0 (.Assign [.Name x pos'] (.ListComp elt [⟨tg, iter, ifs, 0⟩] scope lpos) pos) (sSetN i (eComp fi (own.map (·.2)) ft tt te)) :=
  ds_setN (ps_setLc hc hN hy hyl hsw hi.pi ok (fun s H C cl fp => (hg s H C cl fp).pg) (fun s H C cl fp => (ht s H C cl fp).pts) (fun s H C cl fp => (he s H C cl fp).pe) hs) fun _ _ _ h => lc_run hsub h
theorem d_setS {f : EX Sl} (hN : X.N.Nodup) (hv : DSl X Wx e f) (hi : X.N[i]? = some x := by rfl) (hx : Loc X.env.scope x := by first | exact Or.inl rfl | exact Or.inr rfl) (hs : swapsWith e (some (.Name x pos')) pos.line X.env = pure false := by rfl) (hf : X.fn x = true ∨ X.env.scope.names.lookup x = some .local := by first | exact .inl rfl | exact .inr rfl) :
    DS X Wx H0 W0 (.Assign [.Name x pos'] e pos) (sSetS i f) := ds_setS hv fun _ he => ps_set hN hi hx he hs hf
theorem d_par {a b : Expr} {j : Nat} {y : Str} {f g : EX Sl} {px py pt pt2 : Pos} {kt k2 : Nat} (hN : X.N.Nodup) (hc : X.calm = true) (ha : DSl X Wx a f) (hb : DSl X Wx b g)
    (hw : swappedStores [.Tuple [.Name x px, .Name y py] kt pt] (.Tuple [a, b] k2 pt2) X.env = pure (some [x, y]))
    (hi : X.N[i]? = some x := by rfl) (hj : X.N[j]? = some y := by rfl) (hij : i ≠ j := by decide) (hx : X.env.scope.names.lookup x = some .local := by rfl) (hy : X.env.scope.names.lookup y = some .local := by rfl)
    (hs : swapsWithSole [.Tuple [.Name x px, .Name y py] kt pt] (.Tuple [a, b] k2 pt2) pos.line X.env = pure false := by rfl)
    (he : starEach (a :: [b]) X.env = (false, eval a X.env) :: starEach [b] X.env := by rfl) (he2 : starEach (b :: []) X.env = (false, eval b X.env) :: starEach [] X.env := by rfl) :
    DS X Wx H0 W0 (.Assign [.Tuple [.Name x px, .Name y py] kt pt] (.Tuple [a, b] k2 pt2) pos) (sPar i j f g) := ds_par ha hb he he2 fun _ hp => ps_par hc hN hi hj hij hx hy hp hw hs
theorem d_par3 {a b c : Expr} {j l : Nat} {y z : Str} {f g h : EX Sl} {px py pz pt pt2 : Pos} {kt k2 : Nat} (hN : X.N.Nodup) (hc : X.calm = true) (ha : DSl X Wx a f) (hb : DSl X Wx b g) (hd : DSl X Wx c h)
    (hw : swappedStores [.Tuple [.Name x px, .Name y py, .Name z pz] kt pt] (.Tuple [a, b, c] k2 pt2) X.env = pure (some [x, y, z]))
    (hi : X.N[i]? = some x := by rfl) (hj : X.N[j]? = some y := by rfl) (hl : X.N[l]? = some z := by rfl) (hij : i ≠ j := by decide) (hil : i ≠ l := by decide) (hjl : j ≠ l := by decide) (hx : X.env.scope.names.lookup x = some .local := by rfl) (hy : X.env.scope.names.lookup y = some .local := by rfl) (hz : X.env.scope.names.lookup z = some .local := by rfl)
    (hs : swapsWithSole [.Tuple [.Name x px, .Name y py, .Name z pz] kt pt] (.Tuple [a, b, c] k2 pt2) pos.line X.env = pure false := by rfl)
    (he : starEach (a :: [b, c]) X.env = (false, eval a X.env) :: starEach [b, c] X.env := by rfl) (he2 : starEach (b :: [c]) X.env = (false, eval b X.env) :: starEach [c] X.env := by rfl) (he3 : starEach (c :: []) X.env = (false, eval c X.env) :: starEach [] X.env := by rfl) :
    DS X Wx H0 W0 (.Assign [.Tuple [.Name x px, .Name y py, .Name z pz] kt pt] (.Tuple [a, b, c] k2 pt2) pos) (sPar3 i j l f g h) := ds_par3 ha hb hd he he2 he3 fun _ hp => ps_par3 hc hN hi hj hl hij hil hjl hx hy hz hp hw hs
theorem d_augN {op : Operator} {h : D → D → Option D} (hN : X.N.Nodup) (kop : DOp X (inplaceOp op) h) (hv : DP X Wx e f) (hi : X.N[i]? = some x := by rfl) (hx : Loc X.env.scope x := by first | exact Or.inl rfl | exact Or.inr rfl) (hf : X.fn x = true ∨ X.env.scope.names.lookup x = some .local := by first | exact .inl rfl | exact .inr rfl) :
    DS X Wx H0 W0 (.AugAssign (.Name x pos') op e pos) (sAugN i h f) := ds_augN kop hv fun _ _ he hp => ps_aug hN hi hx he hp hf
theorem d_name {X : Cx} {i : Nat} {x : Str} {pos : Pos} (hN : X.N.Nodup) (hi : X.N[i]? = some x := by rfl) (hx : Loc X.env.scope x := by first | exact Or.inl rfl | exact Or.inr rfl) (hf : X.fn x = true ∨ X.env.scope.names.lookup x = some .local := by first | exact .inl rfl | exact .inr rfl) : DG X (.Name x pos) [i] (gtN i) := dg_name (pg_name hN hi hx hf)
theorem d_pop {o : Expr} {i j : Nat} {y : Str} {apos cpos : Pos} (hN : X.N.Nodup) (ho : PE X o (tVar i)) (hj : X.N[j]? = some y := by rfl) (hy : Loc X.env.scope y := by first | exact Or.inl rfl | exact Or.inr rfl) (hs : swapsWith (.Call (.Attribute o "pop" apos) [] [] cpos) (some (.Name y pos')) pos.line X.env = pure false := by rfl) (hf : X.fn y = true ∨ X.env.scope.names.lookup y = some .local := by first | exact .inl rfl | exact .inr rfl)
    (hbase : attributeBase o "pop" X.env (eval o X.env) = eval o X.env := by rfl) (hline : (apos.endLine == cpos.line) = true := by rfl) :
    DS X Wx H0 W0 (.Assign [.Name y pos'] (.Call (.Attribute o "pop" apos) [] [] cpos) pos) (sPop j i) := ds_pop ho (fun hp => ps_set hN hj hy hp hs hf) hbase hline
end
/-! comparisons as tests -/
section
variable {X : Cx} {Wx : WX'} {a b : Expr} {ea eb : EX D} {pos : Pos}
theorem nb {b : Expr} {op : CmpOp} (h : op ≠ .In := by decide) (h2 : op ≠ .NotIn := by decide) : behindInMarks op b = false := nobehind b h h2
end
end DL

set_option Elab.async false
set_option linter.all false
set_option maxRecDepth 100000
set_option maxHeartbeats 4000000
namespace DL
open PySem PySem.Spec PyProof.Rows L2
/-! ### tuple(range(i, j, -1)) -/
structure DRg3 (X : Cx) (Wx : WX') (e : Expr) (f : EX (Int × Int × Int)) : Prop where
  pr : ∀ (pins : List (Addr × Obj)) (s : Shared) (σ : L2.St) (H : Hp) (Q : Int → Int → Int → Hp → Prop), Inv X pins σ H s →
    (∃ H0 Γ w W, WR X.K X.mg w H W ∧ SR X.K X.mg H0 Γ σ H W ∧ Post X.K X.mg (fun c o H => Wx c o σ H) W H (f Γ w) fun p w' H' W' => Q p.1 p.2.1 p.2.2 H') →
    wpAny (model X.prog X.w) X.A (eval e X.env) (fun x s' => ∃ r a b c t u v H', x = .ref r ∧ IsRange s'.heap r a b c t u v ∧ Inv X pins σ H' s' ∧ Q a b c H' ∧ c = -1) X.xe s
def eR3 (f g k : EX D) : EX (Int × Int × Int) := eBind f fun d => eBind g fun d2 => eBind k fun d3 => fun _ => M.ofOption (match d, d2, d3 with
  | .int i, .int j, .int c => if c = -1 then some (i, j, c) else none
  | _, _, _ => none)
def rgD3 (i j c : Int) : Option (List D) := if in62 i && in62 j && decide ((i - j).toNat ≤ 2 ^ 24) then some (rangeDC i c (i - j).toNat) else none
def eTRg3 (f : EX (Int × Int × Int)) : EX D := eBind f fun p _ => M.ofOption ((rgD3 p.1 p.2.1 p.2.2).map .tup)
section
variable {X : Cx} {Wx : WX'} {e a b c : Expr} {ea eb ec : EX D} {pos p : Pos}
theorem drg_3 (hg : Gl X "range") (hm : X.mg "range" = none) (ha : DP X Wx a ea) (hb : DP X Wx b eb) (hc : DP X Wx c ec) (na : starEach (a :: [b, c]) X.env = (false, eval a X.env) :: starEach [b, c] X.env := by rfl) (nb : starEach (b :: [c]) X.env = (false, eval b X.env) :: starEach [c] X.env := by rfl) (nc : starEach (c :: []) X.env = (false, eval c X.env) :: starEach [] X.env := by rfl) (hp : (backTo pos (starEach [b, c] X.env)).any (·.1) = false := by rfl) :
    DRg3 X Wx (.Call (.Name "range" p) [a, b, c] [] pos) (eR3 ea eb ec) := by
  constructor
  rintro pins s σ H Q I ⟨H0, Γ, w, W, wr, sr, po⟩
  let R : List V → Hp → Prop := fun vs H' => ∃ i j k : Int, vs = [.int i, .int j, .int k] ∧ Q i j k H' ∧ k = -1
  refine Call_ (ld_blt I hg hm boot_range (PyProof.Rows.callWith_type1 (thn ((pa_cons ha.pe (pa_cons hb.pe (pa_cons hc.pe pa_nil nc) nb) na).run pos pins s σ H R I ?_) fun us s1 hus => ?_) na hp))
  · refine ⟨H0, Γ, w, W, wr, sr, (Post.bind po).mono fun d w1 H1 W1 g1 r1 p1 v c => ?_⟩
    refine ⟨H0, Γ, w1, W1, r1, sr.grow g1, (Post.bind p1).mono fun d2 w2 H2 W2 g2 r2 p2 v2 c2 => ?_⟩
    refine ⟨H0, Γ, w2, W2, r2, (sr.grow g1).grow g2, (Post.bind p2).mono fun d3 w3 H3 W3 g3 r3 p3 v3 c3 => ?_⟩
    obtain ⟨o, z, q⟩ := Post.opt p3
    have q := q H3 W3 (Grow.refl _ _) r3
    cases d with
    | int i =>
      cases d2 with
      | int j =>
        cases d3 with
        | int k =>
          have z : (if k = -1 then some (i, j, k) else none) = some o := z
          split at z
          · rename_i hk
            cases z
            exact ⟨i, j, k, by rw [c.int, c2.int, c3.int], q, hk⟩
          · cases z
        | _ => cases z
      | _ => cases z
    | _ => cases z
  · obtain ⟨vs, H1, I1, r1, i, j, k, ev, q, ek⟩ := hus
    subst ev ek
    cases r1 with
    | cons r rr =>
      cases rr with
      | cons r' rr =>
        cases rr with
        | cons r'' rr =>
          cases rr
          obtain ⟨t, rfl⟩ := r
          obtain ⟨t', rfl⟩ := r'
          obtain ⟨t'', rfl⟩ := r''
          exact call_range_3 (by decide) ⟨_, i, j, -1, _, _, _, H1, rfl, IsRange.new _ _ _ _ _ _ _, I1.kept fun b u e => Heap.get?_push_of_some _ e, q, rfl⟩ (.inl (PyProof.noPylong_small (by decide)))
theorem vals_rgC {a c : Int} {n : Nat} {acc : Array Value} (h : ItemsOf (fun i v => ∃ t, v = .int (a + i * c) t) acc n) : Vals ((List.range n).map fun i => V.int (a + (i : Nat) * c)) acc.toList := by
  have hl : acc.toList.length = n := by rw [Array.length_toList]; exact h.1
  have := vals_of_get acc.toList (fun i => V.int (a + (i : Nat) * c)) fun j u e => by
    obtain ⟨t, ht⟩ := h.2 j u (by simpa using e)
    exact ⟨t, ht⟩
  rw [hl] at this
  exact this
theorem df_tupRg3 {f : EX (Int × Int × Int)} (hc : X.calm = true) (hg : Gl X "tuple") (hm : X.mg "tuple" = none) (h : DRg3 X Wx e f) (na : starEach [e] X.env = (false, eval e X.env) :: starEach [] X.env := by rfl) : DF X Wx (.Call (.Name "tuple" p) [e] [] pos) (eTRg3 f) := ⟨⟨fun pins s σ H Q I ⟨H0, Γ, w, W, wr, sr, po⟩ => by
  let R : Int → Int → Int → Hp → Prop := fun i j k H' => ∃ w' W', Grow W H W' H' ∧ WR X.K X.mg w' H' W' ∧ (in62 i && in62 j && decide ((i - j).toNat ≤ 2 ^ 24)) = true ∧ ∀ H'' W'', Grow W' H' W'' H'' → WR X.K X.mg w' H'' W'' → ∀ v, Rep X.K X.mg W'' (.tup (rangeDC i k (i - j).toNat)) v → Q v H''
  refine Call_ (ld_blt I hg hm boot_tuple (PyProof.Rows.callWith_type1 (args_cons (thn (h.pr pins s σ H R I ?_) fun x s1 hx => args_nil ?_) na) na))
  · refine ⟨H0, Γ, w, W, wr, sr, (Post.bind po).mono fun p w1 H1 W1 g1 r1 p1 => ?_⟩
    obtain ⟨o, z, q⟩ := Post.opt p1
    obtain ⟨i, j, k⟩ := p
    have z : (rgD3 i j k).map DL.D.tup = some o := z
    unfold rgD3 at z
    split at z
    · rename_i hh
      cases z
      exact ⟨w1, W1, g1, r1, hh, q⟩
    · cases z
  · obtain ⟨r, i, j, k, t, u, v, H1, ex, hr, I1, ⟨w', W', g1, r1, hh, q⟩, ek⟩ := hx
    subst ex ek
    rw [Bool.and_eq_true, Bool.and_eq_true] at hh
    have b1 := of_in62 hh.1.1
    have b2 := of_in62 hh.1.2
    have b3 : (i - j).toNat ≤ 2 ^ 24 := of_decide_eq_true hh.2
    obtain ⟨c0, c1, c2, c3⟩ := RgC.neg b1.1 b1.2 b2.1 b2.2
    refine call_tuple_range (n := (i - j).toNat) (I1.ok.hd hc) hr c2 c3 b3 fun h' tk acc hk hi => ?_
    have I2 : Inv X pins σ H1 { s1 with heap := h', toks := tk } := I1.kept hk
    have hfr := I2.hok.fresh (Nat.le_refl _)
    have rp : Reps X.K X.mg W' (rangeDC i (-1) (i - j).toNat) ((List.range (i - j).toNat).map fun m => V.int (i + (m : Nat) * (-1))) := by
      unfold rangeDC
      rw [show (fun (m : Nat) => DL.D.int (i + (m : Nat) * (-1))) = (DL.D.int ∘ fun (m : Nat) => i + (m : Nat) * (-1)) from rfl, show (fun (m : Nat) => V.int (i + (m : Nat) * (-1))) = (V.int ∘ fun (m : Nat) => i + (m : Nat) * (-1)) from rfl, ← List.map_map, ← List.map_map]
      exact Reps.ints _
    obtain ⟨W3, g3, r3, c3'⟩ := new_tupM (ob := { cls := .type "tuple", data := .seq acc.toList.toArray }) r1 hfr rfl rfl rp
    refine ⟨.ref h'.objs.size, _, I2.laid (t' := tk) (o := .frz _ (.tup _)) (fun c o e => Heap.get?_push_of_some _ e) (Nat.le_refl _) ⟨by rw [Array.toArray_toList]; exact Heap.get?_push_size _ rfl, ?_, acc.toList, vals_rgC hi, ?_⟩, rfl, q _ W3 g3 r3 _ c3'⟩
    · rw [List.length_map, List.length_range, sizeLine_eq]; omega
    · rw [Array.toArray_toList]; exact IsTup.new _ _⟩⟩
end
end DL

set_option Elab.async false
set_option linter.all false
set_option maxRecDepth 100000
set_option maxHeartbeats 4000000
namespace DL
open PySem PySem.Spec PyProof.Rows L2
/-! ### t.count(x), whole numbers -/
theorem readsV {h : Heap} : ∀ {ns : List Int} {us : List Value}, Vals (ns.map V.int) us → ReadsAll h us (ns.map PyData.int) []
  | [], us, r => by cases r; exact .nil
  | n :: ns, us, r => by
    cases r with
    | cons rx rt =>
      obtain ⟨t, rfl⟩ := rx
      have := ReadsAll.cons (as := []) (bs := []) (Reads.int (h := h) n t) (readsV rt)
      exact this
theorem plainInts : ∀ ns : List Int, PyData.plainAll (ns.map PyData.int) = true
  | [] => rfl
  | n :: ns => by
    have := plainInts ns
    rw [List.map_cons, PyData.plainAll, this]; rfl
theorem countInts (k : Int) (ns : List Int) : ((ns.map PyData.int).countP fun y => PyData.eqv y (.int k)) = ns.countP fun n => decide (n = k) := by
  rw [List.countP_map]
  apply List.countP_congr
  intro n _
  show PyData.eqv (.int n) (.int k) = true ↔ _
  have : PyData.eqv (.int n) (.int k) = decide (n = k) := by
    simp only [PyData.eqv]
    by_cases h : n = k
    · subst h; simp
    · rw [decide_eq_false h]; exact beq_eq_false_iff_ne.mpr h
  rw [this]
def rCountI (K : PySem.W.Frag) : V → List V → Hp → VK → Prop := fun x xs H Q => ∃ (a : Addr) (ns : List Int) (k : Int), x = .ref a ∧ xs = [.int k] ∧ SqT K H a (ns.map V.int) ∧ Q (.int (ns.countP fun n => decide (n = k) : Nat)) H
theorem mt_countI {X : Cx} (hu : X.A.units + 64 < cLine) : MtR X "tuple.count" (rCountI X.K) := by
  intro pins s σ H x xs v us Q I rx rs h
  obtain ⟨a, ns, k, rfl, rfl, hT, q⟩ := h
  cases rx
  obtain ⟨u, rfl, ru⟩ := vals1 rs
  obtain ⟨t, rfl⟩ := ru
  obtain ⟨its, r, ht, hz⟩ := I.tuple hT
  refine SeqAt.count_tuple_data (xs := ns.map PyData.int) (d := .int k) (as := []) (bs := []) ht (readsV r) (Reads.int k t) (plainInts ns) rfl (by rw [depthInts]; omega) ?_
  rw [countInts]
  exact ⟨.int _, H, I.tok _, ⟨_, rfl⟩, q⟩
theorem reps_ints {K : PySem.W.Frag} {mg : Str → Option Value} {W : Wst} : ∀ {ns : List Int} {vs : List V}, Reps K mg W (ns.map D.int) vs → vs = ns.map V.int
  | [], vs, h => by rw [List.map_nil, Reps] at h; exact h
  | n :: ns, vs, h => by
    rw [List.map_cons, Reps] at h
    obtain ⟨v, r, e, q, t⟩ := h
    rw [Rep] at q
    subst e q
    rw [reps_ints t]; rfl
def bCount (d x : D) : Option D := match d, x with
  | .tup ds, .int k => (intsD ds).map fun ns => .int (ns.countP fun n => decide (n = k) : Nat)
  | _, _ => none
def isTp : D → Bool
  | .tup _ => true
  | _ => false
def eCount (f g : EX D) : EX D := eBind f fun d => if isTp d = true then eBind g fun x => (fun _ => M.ofOption (bCount d x)) else fun _ => M.stuck
section
variable {X : Cx} {Wx : WX'} {o e : Expr} {f g : EX D} {apos cpos : Pos}
theorem df_count (hu : X.A.units + 64 < cLine) (ho : DP X Wx o f) (hv : DP X Wx e g) (hbase : attributeBase o "count" X.env (eval o X.env) = eval o X.env := by rfl)
    (hfew : ((backTo cpos (starEach (e :: []) X.env)).all (fun x => !x.1) && (backToKw cpos (keywordEach [] X.env)).all (fun x => x.1.isSome)
      && decide ((e :: []).length + ([] : List Keyword).length + (if ([] : List Keyword).isEmpty then 0 else 1) < 30)) = true := by rfl)
    (hline : (apos.endLine == cpos.line) = true := by rfl) (hs : starEach (e :: []) X.env = (false, eval e X.env) :: starEach [] X.env := by rfl) (hplain : (backTo cpos (starEach [] X.env)).any (·.1) = false := by rfl) :
    DF X Wx (.Call (.Attribute o "count" apos) [e] [] cpos) (eCount f g) := ⟨pe_imp (pe_bmT PySem.F.plainAttrs_tuple PySem.F.slot_tuple_count PySem.F.type_tuple_count (mt_countI hu) ho.pe (eArg_p hv hs) hbase hfew hline hs hplain) fun σ H Q ⟨H0, Γ, w, W, wr, s, p⟩ => by
  refine ⟨H0, Γ, w, W, wr, s, (Post.bind p).mono fun d w1 H1 W1 g1 r1 p1 v c => ?_⟩
  dsimp only at p1
  split at p1
  rotate_left
  · exact p1.elim
  rename_i hl
  cases d with
  | tup ds =>
    obtain ⟨a, vs, ex, qa, rp⟩ := c.tup r1
    refine ⟨⟨a, vs, ex, qa⟩, H0, Γ, w1, W1, r1, s.grow g1, (Post.bind p1).mono fun x w2 H2 W2 g2 r2 p2 v2 c2 => ?_⟩
    obtain ⟨r, z, q⟩ := Post.opt p2
    have q := q H2 W2 (Grow.refl _ _) r2
    have z : bCount (.tup ds) x = some r := z
    cases x with
    | int k =>
      have z : (intsD ds).map (fun ns => DL.D.int (ns.countP (fun n => decide (n = k)) : Nat)) = some r := z
      cases zi : intsD ds with
      | none => rw [zi] at z; cases z
      | some ns =>
        rw [zi] at z
        cases z
        have em := intsD_map zi
        subst em
        obtain ⟨a2, vs2, ex2, qa2, rp2⟩ := (c.grow g2).tup r2
        refine ⟨a2, ns, k, ex2, by rw [c2.int], ?_, q _ (by rw [Rep])⟩
        rw [← reps_ints rp2]
        exact qa2.sq
    | _ => cases z
  | _ => cases hl⟩
end
end DL

set_option Elab.async false
set_option linter.all false
set_option maxRecDepth 100000
set_option maxHeartbeats 4000000
/-! t[::-1] of a tuple -/
namespace HT
open PySem PySem.Spec PyProof.Rows
section
variable {prog : Program} {w : World} {A : Around} {E : Value → Shared → Prop} {s : Shared}
theorem adjust_rev (n : Nat) : Builtin.Slice.sliceAdjust none none (-1) (n : Int) = ((n : Int) - 1, -1) := rfl
theorem places_rev (n : Nat) : Builtin.Slice.slicePlaces ((n : Int) - 1) (-1) (-1) = n := by
  unfold Builtin.Slice.slicePlaces
  have h1 : ¬ ((-1 : Int) > 0) := by omega
  rw [if_neg h1]
  have e : (- -1 : Int) = 1 := by decide
  rw [e, Int.ediv_one]
  split <;> omega
theorem sliceApplied_rev {sl : Addr} {vl vu vs : Value} {n : Nat} {Q : Int × Int × Nat → Shared → Prop} (hs : s.heap.IsSliceOf sl vl vu vs) (pl : IsPart vl none) (pu : IsPart vu none) (ps : IsPart vs (some (-1)))
    (h : Q ((n : Int) - 1, -1, n) s) : wpAny (model prog w) A (Builtin.Slice.sliceApplied (.ref sl) (pure (n : Int))) Q E s := by
  obtain ⟨os, hos, hcs, hds⟩ := id hs
  unfold Builtin.Slice.sliceApplied Builtin.Slice.sliceFields
  refine wpAny_bind (wpAny_bind (wpAny_field hos hds (x := vl) rfl (wpAny_bind (wpAny_field hos hds (x := vu) rfl (wpAny_bind (wpAny_field hos hds (x := vs) rfl (wpAny_pure ?_)))))))
  refine wpAny_bind (slicePart_ ps ?_)
  show wpAny _ _ (if ((-1 : Int) == 0) = true then _ else _) _ _ s
  rw [if_neg (by decide)]
  refine wpAny_bind (slicePart_ pl (wpAny_bind (slicePart_ pu (wpAny_bind (wpAny_pure ?_)))))
  show wpAny _ _ (match Builtin.Slice.sliceAdjust none none (-1) (n : Int) with | (lo, hi) => pure (lo, (-1 : Int), Builtin.Slice.slicePlaces lo hi (-1))) _ _ s
  rw [adjust_rev n]
  show wpAny _ _ (pure ((n : Int) - 1, (-1 : Int), Builtin.Slice.slicePlaces ((n : Int) - 1) (-1) (-1))) _ _ s
  rw [places_rev]
  exact wpAny_pure h
theorem pick_rev (xs : Array Value) : ((List.range xs.size).filterMap fun (m : Nat) => xs[((xs.size : Int) - 1 + (m : Int) * (-1)).toNat]?).toArray = xs.toList.reverse.toArray := by
  have e : (fun (m : Nat) => xs[((xs.size : Int) - 1 + (m : Int) * (-1)).toNat]?) = (fun x => xs[x]?) ∘ fun m => xs.size - 1 - m := by
    funext m
    have : ((xs.size : Int) - 1 + (m : Int) * (-1)).toNat = xs.size - 1 - m := by omega
    show xs[((xs.size : Int) - 1 + (m : Int) * (-1)).toNat]? = xs[xs.size - 1 - m]?
    rw [this]
  rw [e, ← List.filterMap_map, PySem.W.krv_range, List.filterMap_reverse, PySem.W.krv_all]
theorem getItem_tuple_rev {t sl : Addr} {items : Array Value} {vl vu vs : Value} {Q : Value → Shared → Prop} (ht : IsTup s.heap t items) (hs : s.heap.IsSliceOf sl vl vu vs) (pl : IsPart vl none) (pu : IsPart vu none) (ps : IsPart vs (some (-1)))
    (h : Q (.ref s.heap.objs.size) { s with heap := s.heap.push { cls := .type "tuple", data := .seq items.toList.reverse.toArray } })
    (hsz : items.size ≤ sizeLine) : wpAny (model prog w) A (getItem (.ref t) (.ref sl)) Q E s := by
  have htake : sizeOk (.seq items.toList.reverse.toArray) := by
    show items.toList.reverse.toArray.size ≤ sizeLine
    rw [List.size_toArray, List.length_reverse, Array.length_toList]
    exact hsz
  obtain ⟨os, hos, hcs, hds⟩ := id hs
  have hTs : s.TypeIs (.ref sl) "slice" := ⟨os, hos, hcs⟩
  unfold getItem
  try with_reducible refine wpAny_holding ?_
  first | refine wpAny_bind (wpAny_pure ?_) | skip
  refine wpAny_bind (wpAny_sequenceKey ht.typeIs (by decide) ?_)
  refine wpAny_bind (wpAny_callSpecial?_slot (name := Str.ofString "__getitem__") ht.typeIs PyProof.Rows.slot_tuple_getitem
    (wpAny_call_entry PyProof.Rows.slot_tuple_getitem ht.typeIs entry_tuple_getitem ?_ (args_tuple_getitem _ _)))
  show wpAny _ _ (Builtin.Tuple.tupleItemsOf (.ref t) >>= _) _ _ s
  refine wpAny_bind (tupleItemsOf_ ht ?_)
  refine wpAny_bind (wpAny_typeOf hTs ?_)
  rw [if_pos (by decide)]
  refine wpAny_bind (sliceApplied_rev hs pl pu ps ?_)
  have hno : ¬ (((items.size : Int) - 1 == 0 && (-1 : Int) == 1 && items.size == items.size) = true) := by
    intro q
    rw [Bool.and_eq_true, Bool.and_eq_true] at q
    exact absurd q.1.2 (by decide)
  show wpAny _ _ (if ((items.size : Int) - 1 == 0 && (-1 : Int) == 1 && items.size == items.size) = true then _ else _) _ _ s
  rw [if_neg hno, pick_rev]
  first
    | exact wpAny_bind (m := Builtin.Tuple.tupleExact _) (wpAny_newObj_type (wpAny_pure ⟨_, rfl, wpAny_pure h⟩) htake)
    | exact wpAny_bind (m := Builtin.Tuple.tupleExact _) (wpAny_newObj_type (wpAny_bind (wpAny_pure (wpAny_pure ⟨_, rfl, wpAny_pure h⟩))) htake)
    | exact wpAny_bind (wpAny_bind (m := Builtin.Tuple.tupleExact _) (wpAny_newObj_type (wpAny_pure (wpAny_pure ⟨_, rfl, wpAny_pure h⟩)) htake))
    | exact wpAny_bind (wpAny_bind (m := Builtin.Tuple.tupleExact _) (wpAny_newObj_type (wpAny_pure ⟨_, rfl, wpAny_pure h⟩) htake))
end
end HT
namespace L2
open PySem PySem.Spec PyProof.Rows PySem.W
section
variable {X : Cx}
def tRevT (K : PySem.W.Frag) (te : TE) : TE := fun σ H Q => te σ H fun x H1 => ∃ a xs, x = .ref a ∧ SqT K H1 a xs ∧ newT H1 xs.reverse Q
theorem pe_revT {e : Expr} {te : TE} {k : Nat} {p1 p2 p3 pos : Pos} (he : PE X e te) : PE X (.Subscript e (.Slice none none (some (.UnaryOp .USub (.Constant (.int 1) k p1) p2)) p3) pos) (tRevT X.K te) := by
  refine ⟨fun pins s σ H Q I h => ?_⟩
  refine Subscript_ (thn (he.run pins s σ H _ I h) fun v s1 ⟨x, H1, I1, r1, q1⟩ => ?_)
  obtain ⟨a, xs, ex, hx, q⟩ := q1
  subst ex
  cases r1
  have hst : PO X (some (.UnaryOp .USub (.Constant (.int 1) k p1) p2)) (tPart (tUn (rU fun i => .int (-i)) (tC (.int 1)))) := po_some (pe_un un_neg pe_int)
  refine wpAny_Slice (thn (po_none.run pins s1 σ H1 (fun o H2 => o = none ∧ H2 = H1) I1 ⟨rfl, rfl⟩) fun vl s2 ⟨l, H2, I2, pl, el, e2⟩ => ?_)
  subst el e2
  refine thn (po_none.run pins s2 σ H2 (fun o H3 => o = none ∧ H3 = H2) I2 ⟨rfl, rfl⟩) fun vu s3 ⟨u, H3, I3, pu, eu, e3⟩ => ?_
  subst eu e3
  refine thn (hst.run pins s3 σ H3 (fun o H4 => o = some (-1) ∧ H4 = H3) I3 ⟨1, rfl, -1, rfl, rfl, rfl⟩) fun vs s4 ⟨o, H4, I4, ps, eo, e4⟩ => ?_
  subst eo e4
  have I5 : Inv X pins σ H4 { s4 with heap := s4.heap.push { cls := .type "slice", data := .fields #[vl, vu, vs] } } := I4.kept (t' := s4.toks) fun b ob q => Heap.get?_push_of_some _ q
  obtain ⟨its, r, ht, hz⟩ := I5.tuple hx
  have hlen := r.length
  show wpAny (model X.prog X.w) X.A (subscriptTail e (.Slice none none (some (.UnaryOp .USub (.Constant (.int 1) k p1) p2)) p3) (.ref a) (.ref s4.heap.objs.size)) (EP X pins σ Q) X.xe { s4 with heap := s4.heap.push { cls := .type "slice", data := .fields #[vl, vu, vs] } }
  refine tail_any (ops := [.ref a, .ref s4.heap.objs.size]) ht.typeIs (PyProof.Rows.slot_tuple_getitem.lookup) ?_ (by with_unfolding_all rfl)
  refine HT.getItem_tuple_rev ht (Heap.IsSliceOf.new _ vl vu vs) pl pu ps ?_ (by rw [List.size_toArray]; omega)
  exact laidT I5 r.reverse (by rw [List.length_reverse]; exact hz) q
end
end L2

set_option Elab.async false
set_option linter.all false
set_option maxRecDepth 100000
set_option maxHeartbeats 4000000
namespace DL
open PySem PySem.Spec PyProof.Rows L2
section
variable {X : Cx} {Wx : WX'} {a : Expr} {ea : EX D} {p1 pos : Pos}
def dRevT : D → Option D
  | .tup ds => some (.tup ds.reverse)
  | _ => none
theorem df_revT {k : Nat} {q1 q2 q3 : Pos} (ha : DP X Wx a ea) : DF X Wx (.Subscript a (.Slice none none (some (.UnaryOp .USub (.Constant (.int 1) k q1) q2)) q3) pos) (eUn dRevT ea) := ⟨pe_imp (pe_revT ha.pe) fun σ H Q ⟨H0, Γ, w, W, wr, s, p⟩ => by
  refine ⟨H0, Γ, w, W, wr, s, (Post.bind p).mono fun d w1 H1 W1 g1 r1 p1 v c => ?_⟩
  obtain ⟨o, z, q⟩ := Post.opt p1
  cases d with
  | tup ds =>
    cases z
    obtain ⟨a, vs, ex, qa, rp⟩ := c.tup r1
    refine ⟨a, vs, ex, qa.sq, fun p ob hp hcl hdi => ?_⟩
    obtain ⟨f0, n0⟩ := r1.fresh hp r1.len
    refine q _ (W1.put p (.frz ob (.tup vs.reverse))) ((Grow.lay hp).freeze f0 hp) ((r1.lay hp).freeze upd_same f0 n0) _ ?_
    rw [Rep]
    exact ⟨p, _, rfl, ⟨ob, upd_same, hcl, hdi⟩, Reps.le (Wle.put f0) _ _ rp.reverse⟩
  | _ => cases z⟩
/-! a test that is a if c else b -/
def tIfT (t ta tb : TT) : TT := fun σ H Q => t σ H fun c H1 => if c = true then ta σ H1 Q else tb σ H1 Q
theorem pt_ifExp {c a b : Expr} {tA ta tb : TT} (hc : PT X c tA) (ha : PT X a ta) (hb : PT X b tb) : PT X (.IfExp c a b pos) (tIfT tA ta tb) := by
  refine ⟨fun pins s σ H Q I h => ?_⟩
  refine isTrue_IfExp (thn (hc.run pins s σ H _ I h) fun d s1 ⟨H1, I1, q1⟩ => ?_)
  cases d with
  | true => exact ha.run pins s1 σ H1 Q I1 q1
  | false => exact hb.run pins s1 σ H1 Q I1 q1
theorem dt_if {c a b : Expr} {tc ta tb : EX Bool} (hc : DT X Wx c tc) (ha : DT X Wx a ta) (hb : DT X Wx b tb) : DT X Wx (.IfExp c a b pos) (eIf tc ta tb) := ⟨pt_imp (pt_ifExp hc.pt ha.pt hb.pt) fun σ H Q ⟨H0, Γ, w, W, wr, s, p⟩ => by
  refine ⟨H0, Γ, w, W, wr, s, (Post.bind p).mono fun d w1 H1 W1 g1 r1 p1 => ?_⟩
  cases d with
  | true => exact ⟨H0, Γ, w1, W1, r1, s.grow g1, p1⟩
  | false => exact ⟨H0, Γ, w1, W1, r1, s.grow g1, p1⟩⟩
/-! range(i, j, c), c from 1 on -/
def stepN (i j c : Int) : Nat := (Builtin.Range.rangeSize i j c).toNat
def bRg3 (i j c : Int) : Bool := decide (-(2 ^ 40) ≤ i ∧ i < 2 ^ 40 ∧ -(2 ^ 40) ≤ j ∧ j < 2 ^ 40 ∧ 1 ≤ c ∧ c < 2 ^ 20)
def rg3P : D → D → D → Option (List D)
  | .int i, .int j, .int c => if bRg3 i j c = true then some (rangeDC i c (stepN i j c)) else none
  | _, _, _ => none
theorem rgC_up {i j c : Int} (h : bRg3 i j c = true) : RgC i j c (stepN i j c) := by
  have h := of_decide_eq_true h
  obtain ⟨a1, a2, b1, b2, c1, c2⟩ := h
  have hs := rangeSize_toNat i j c
  have hl := rangeSize_toNat_le i j c
  refine ⟨by omega, by omega, ?_, hs⟩
  unfold Builtin.Range.small
  simp only [Builtin.Range.rangeFitsLong, Bool.and_eq_true, Bool.or_eq_true, decide_eq_true_eq, beq_iff_eq]
  rw [if_pos (show c > 0 by omega)]
  simp only [Builtin.Range.rangeFitsLong, Bool.and_eq_true, decide_eq_true_eq]
  generalize Builtin.Range.rangeSize i j c = n at *
  omega
def eRg3P (f g k : EX D) : EX (List D) := eBind f fun a => eBind g fun b => eBind k fun c => fun _ => M.ofOption (rg3P a b c)
theorem di_range3P {tg e e2 e3 : Expr} {f g k : EX D} {p : Pos} (hg : Gl X "range") (hm : X.mg "range" = none) (h : DF X Wx e f) (h2 : DF X Wx e2 g) (h3 : DF X Wx e3 k) (hs : starEach (e :: [e2, e3]) X.env = (false, eval e X.env) :: starEach [e2, e3] X.env := by rfl) (hs2 : starEach (e2 :: [e3]) X.env = (false, eval e2 X.env) :: starEach [e3] X.env := by rfl) (hs3 : starEach (e3 :: []) X.env = (false, eval e3 X.env) :: starEach [] X.env := by rfl) (hpl : (backTo pos (starEach [e2, e3] X.env)).any (·.1) = false := by rfl) :
    DIF X Wx tg (.Call (.Name "range" p) [e, e2, e3] [] pos) (eRg3P f g k) := ⟨pi_imp (pi_range3 hg hm (eArg_f3 h h2 h3 hs hs2 hs3) hs hpl) fun σ H R ⟨H0, Γ, w, W, wr, s, p⟩ => by
  refine ⟨H0, Γ, w, W, wr, s, (Post.bind p).mono fun d1 w1 H1 W1 g1 r1 p1 v1 c1 => ?_⟩
  refine ⟨H0, Γ, w1, W1, r1, s.grow g1, (Post.bind p1).mono fun d2 w2 H2 W2 g2 r2 p2 v2 c2 => ?_⟩
  refine ⟨H0, Γ, w2, W2, r2, (s.grow g1).grow g2, (Post.bind p2).mono fun d3 w3 H3 W3 g3 r3 p3 v3 c3 => ?_⟩
  obtain ⟨ds, z, q⟩ := Post.opt p3
  have q := q H3 W3 (Grow.refl _ _) r3
  unfold rg3P at z
  split at z
  · rename_i i j c
    rw [Rep] at c1 c2 c3
    split at z
    · rename_i hj
      cases z
      exact ⟨i, j, c, stepN i j c, by rw [c1, c2, c3], rgC_up hj, q _ fun i w2 H2 W2 g2 r2 => at_rangeC r2⟩
    · cases z
  · cases z⟩
end
end DL

set_option Elab.async false
set_option linter.all false
set_option maxRecDepth 100000
set_option maxHeartbeats 4000000
namespace DL
open PySem PySem.Spec PyProof.Rows L2
/-! ### {k: v} -/
def eDisp1 (fk fv : EX D) : EX D := eBind fk fun k => eBind fv fun v => fun _ => if (toKey k).isSome = true then M.pure (.dck [(k, v)]) else M.stuck
section
variable {X : Cx} {Wx : WX'} {ke ve : Expr} {fk fv : EX D} {pos : Pos}
theorem dn_disp1 (hk : DF X Wx ke fk) (hv : DF X Wx ve fv) : DN X Wx (.Dict [some ke] [ve] pos) (eDisp1 fk fv) := ⟨pe_imp (pe_disp (pps_cons hk.pe hv.pe pps_nil) rfl rfl (by simp) (by simp)) fun σ H Q ⟨H0, Γ, w, W, wr, s, p⟩ D hD => by
  obtain ⟨f0, n0⟩ := wr.fresh hD wr.len
  have g0 : Grow W H W (upd H D (.dK [])) := Grow.lay hD
  have r0 := wr.lay (o := .dK []) hD
  refine ⟨H0, Γ, w, W, r0, s.grow g0, (Post.later g0 (Post.bind' p)).mono fun k w1 H1 W1 g1 r1 p1 v c1 => ?_⟩
  have e1 := g1.keep D _ upd_same n0
  have n1 := g1.nad upd_same n0
  have f1 := g1.nofz D _ upd_same trivial f0 n0
  refine ⟨H0, Γ, w1, W1, r1, (s.grow g0).grow g1, (Post.later (g0.trans g1) (Post.bind' p1)).mono fun y w2 H2 W2 g2 r2 p2 v2 c2 => ?_⟩
  have e2 := g2.keep D _ e1 n1
  have n2 := g2.nad e1 n1
  have f2 := g2.nofz D _ e1 trivial f1 n1
  split at p2
  rotate_left
  · exact p2.elim
  rename_i hh
  obtain ⟨q', hq⟩ := Option.isSome_iff_exists.mp hh
  have ek := toKey_keyD hq
  subst ek
  have ekv := Rep.key (Rep.le g2.le _ _ c1)
  refine ⟨e2, [(q', v2)], ?_, by simp, ?_⟩
  · rw [ekv]; rfl
  · have gg : Grow W H W2 (upd H2 D (.dK (mergeK [] [(q', v2)]))) := by
      have g := (g1.trans g2)
      refine ⟨g.le, fun a o e n => ?_, fun a o e m f n => ?_, fun a o n e z => ?_⟩
      · rw [upd_ne (ne_of_none e hD)]
        exact (g0.trans g).keep a o e n
      · exact (g0.trans g).nofz a o e m f n
      · exact (g0.trans g).noad a o n e z
    exact p2 _ W2 gg (r2.mut f2 n2) D _ upd_same (show RepK _ _ _ _ _ by
      have := RepK.put (K := X.K) (mg := X.mg) (W := W2) (kvs := []) (kk := []) q' c2 (by rw [RepK])
      exact this) f2 n2 hD⟩
end
/-! ### a, .. = xs.pop() -/
def sPopT (i : Nat) (tg : FT) : SX := fun Γ w => match Γ[i]? with
  | some (.own (.lst ds)) => (match ds[ds.length - 1]? with
    | some d => (match tg d (Γ.set i (.own (.lst ds.dropLast))) with
      | some Γ' => .nx Γ' w
      | none => .stuck)
    | none => .stuck)
  | _ => .stuck
section
variable {X : Cx} {Wx : WX'} {H0 : Hp} {W0 : Wst} {o : Expr} {i : Nat} {apos cpos pos : Pos}
theorem ds_popT {tg : Expr} {is : List Nat} {ft : FT} (ho : PE X o (tVar i)) (hg : DG X tg is ft) (hbase : attributeBase o "pop" X.env (eval o X.env) = eval o X.env := by rfl) (hline : (apos.endLine == cpos.line) = true := by rfl)
    (hs : swapsWithSole [tg] (.Call (.Attribute o "pop" apos) [] [] cpos) pos.line X.env = pure false := by rfl) (hw : swappedStores [tg] (.Call (.Attribute o "pop" apos) [] [] cpos) X.env = pure none := by rfl)
    (h1 : (assignEach [tg] X.env).map (·.2) = [assign tg X.env] := by rfl) : DS X Wx H0 W0 (.Assign [tg] (.Call (.Attribute o "pop" apos) [] [] cpos) pos) (sPopT i ft) := ⟨ps_imp (ps_asg (pe_bm0 PySem.F.plainAttrs_list PySem.F.slot_list_pop PySem.F.type_list_pop mt_pop ho hbase hline) hg.pg hs hw h1) fun D σ H ⟨Γ, w, W, gr, wr, s, p⟩ => by
  unfold sPopT at p
  split at p
  · rename_i ds hd
    obtain ⟨a, vs, e1, e2, e3, e4, e5, e6⟩ := s.ownL hd
    split at p
    · rename_i d hl
      split at p
      · rename_i Γ' hg'
        have hlen := e3.length
        obtain ⟨v, h1, h2⟩ := e3.get hl
        refine ⟨_, e1, tyV_list e2, a, vs, v, rfl, rfl, e2, by rw [← hlen]; exact h1, ?_⟩
        have sm := s.mut (d' := .lst ds.dropLast) (o' := .lst vs.dropLast) hd e1 (e3.dropLast)
        exact ⟨H0, _, w, W, d, Γ', wr.mut e4 e5, sm, h2, hg', fun σ' s' _ => p σ' _ W (Wle.refl _) (gr.mut e6) (wr.mut e4 e5) s'⟩
      · exact p.elim
    · exact p.elim
  · exact p.elim⟩
end
end DL

set_option Elab.async false
set_option linter.all false
set_option maxRecDepth 100000
set_option maxHeartbeats 4000000
/-! dict(enumerate(xs)) of a list -/
namespace L2
open PySem PySem.Spec PyProof.Rows PySem.W
section
variable {X : Cx}
def kvEn (xs : List V) : List (Key × V) := xs.mapIdx fun i x => (Sum.inl ((i : Nat) : Int), x)
def tDEn (K : PySem.W.Frag) (te : TE) : TE := fun σ H Q => te σ H fun x H1 => ∃ a xs, x = .ref a ∧ SqL K H1 a xs ∧ ∀ p, H1 p = none → Q (.ref p) (upd H1 p (.dK (mergeK [] (kvEn xs))))
theorem kv_en : ∀ {xs : List V} {its : List Value}, Vals xs its → KV (kvEn xs) (its.mapIdx fun i v => ((Sum.inl ((i : Nat) : Int) : Key), v)) := by
  have go : ∀ (xs : List V) (its : List Value) (k : Nat), Vals xs its → KV (xs.mapIdx fun i x => ((Sum.inl (((i + k : Nat)) : Int) : Key), x)) (its.mapIdx fun i v => ((Sum.inl (((i + k : Nat)) : Int) : Key), v)) := by
    intro xs
    induction xs with
    | nil => intro its k r; cases r; exact .nil
    | cons x xs ih =>
      intro its k r
      cases r with
      | cons h t =>
        rw [List.mapIdx_cons, List.mapIdx_cons]
        refine .cons ⟨rfl, h⟩ ?_
        have := ih _ (k + 1) t
        have e : ∀ i : Nat, i + (k + 1) = i + 1 + k := fun i => by omega
        simp only [e] at this
        exact this
  intro xs its r
  exact go xs its 0 r
theorem pe_dictEn {e : Expr} {te : TE} {p pos p2 pos2 : Pos} (hcalm : X.calm = true) (hg : Gl X "dict") (hm : X.mg "dict" = none) (hg2 : Gl X "enumerate") (hm2 : X.mg "enumerate" = none) (he : PE X e te)
    (na : starEach [e] X.env = (false, eval e X.env) :: starEach [] X.env := by rfl) (na2 : starEach [.Call (.Name "enumerate" p2) [e] [] pos2] X.env = (false, eval (.Call (.Name "enumerate" p2) [e] [] pos2) X.env) :: starEach [] X.env := by rfl) :
    PE X (.Call (.Name "dict" p) [.Call (.Name "enumerate" p2) [e] [] pos2] [] pos) (tDEn X.K te) := by
  refine ⟨fun pins s σ H Q I h => ?_⟩
  refine Call_ (ld_blt I hg hm PyProof.Rows.boot_dict (PyProof.Rows.callWith_type1 (args_cons (Call_ (ld_blt I hg2 hm2 boot_enumerate (PyProof.Rows.callWith_type1 (one_arg he I h (fun v s1 x H1 I1 r1 q1 => ?_) na) na))) na2) na2))
  obtain ⟨a, xs, ex, hq, q⟩ := q1
  subst ex
  cases r1
  obtain ⟨its, rv, pl, hz⟩ := I1.list hq
  have hla : a < s1.heap.objs.size := by obtain ⟨_, z, _⟩ := pl.isList; exact Heap.lt_size z
  refine call_enumerate_list pl.isList fun h' hen hit hsz hk => args_nil ?_
  have I2 : Inv X pins σ H1 { s1 with heap := h' } := I1.kept (t' := s1.toks) hk
  have P := PairArg.enumerate (prog := X.prog) (w := X.w) (s1.heap.objs.size + 1) s1.heap.objs.size a (Nat.succ_ne_self _) (Nat.ne_of_lt (Nat.lt_succ_of_lt hla)) (Nat.ne_of_lt hla) its.toArray
  have hlen := rv.length
  refine PySem.call_dict_pairs (s := { s1 with heap := h' }) (knd := mixKind X.prog X.w) (kvs := its.mapIdx fun i v => ((Sum.inl ((i : Nat) : Int) : Key), v)) P (I1.ok.hd hcalm) ⟨⟨.none, hen⟩, hit, pl.isList.at fun o z => hk a o z⟩ ⟨by simp, fun i key v hr => ?_⟩ (by rw [List.size_toArray, ← hlen]; exact hz) fun h2 tk hd2 hk2 => ?_
  · obtain ⟨⟨t, rfl⟩, hv⟩ := hr
    refine ⟨Sum.inl ((i : Nat) : Int), ?_, kV_is ⟨t, rfl⟩⟩
    rw [List.getElem?_mapIdx]
    have : its[i]? = some v := by simpa using hv
    rw [this]; rfl
  · have hm : (h'.objs.size == sysModules) = false := beq_eq_false_iff_ne.mpr (Nat.ne_of_gt I2.big)
    have hl2 : (mergeK [] (kvEn xs)).length ≤ sizeLine := by
      refine Nat.le_trans (length_mergeK (kvEn xs) []) ?_
      unfold kvEn
      rw [List.length_nil, Nat.zero_add, List.length_mapIdx]
      exact hz
    refine ⟨.ref h'.objs.size, upd H1 h'.objs.size (.dK (mergeK [] (kvEn xs))), ?_, rfl, q _ (I2.hok.fresh (Nat.le_refl _))⟩
    refine I2.turnedNew (t' := tk) (ch := [s1.heap.objs.size + 1, s1.heap.objs.size]) (fun b o hb z => hk2 b o hb z) (fun b hb => ?_) (Nat.le_refl _) (show ObjOk X.prog X.w _ _ _ (.dK (mergeK [] (kvEn xs))) from ⟨hl2, hm, merged [] (its.mapIdx fun i v => ((Sum.inl ((i : Nat) : Int) : Key), v)), KV.merge (kv_en rv) .nil, hd2⟩)
    have hle : s1.heap.objs.size ≤ b := by
      rcases List.mem_cons.mp hb with z | hb
      · rw [z]; exact Nat.le_add_right _ _
      · rw [List.mem_singleton.mp hb]; exact Nat.le_refl _
    exact I1.fpOk hle (I1.hok.fresh hle)
end
end L2

set_option Elab.async false
set_option linter.all false
set_option maxRecDepth 100000
set_option maxHeartbeats 4000000
namespace DL
open PySem PySem.Spec PyProof.Rows L2
def enPs (ds : List D) : List (D × D) := ds.mapIdx fun i x => (D.int ((i : Nat) : Int), x)
def bDEn (d : D) : Option D := (lsD d).map fun ds => .dck (dkMerge [] (enPs ds))
theorem repK_en {K : PySem.W.Frag} {mg : Str → Option Value} {W : Wst} : ∀ {ds : List D} {vs : List V} (k : Nat), Reps K mg W ds vs → RepK K mg W (ds.mapIdx fun i x => (D.int ((i + k : Nat) : Int), x)) (vs.mapIdx fun i x => ((Sum.inl ((i + k : Nat) : Int) : Key), x))
  | [], vs, k, h => by rw [Reps] at h; subst h; rw [List.mapIdx_nil, List.mapIdx_nil, RepK]
  | d :: ds, vs, k, h => by
    rw [Reps] at h
    obtain ⟨v, r, e, q, t⟩ := h
    subst e
    rw [List.mapIdx_cons, List.mapIdx_cons, RepK]
    have ih := repK_en (k + 1) t
    have e : ∀ i : Nat, i + (k + 1) = i + 1 + k := fun i => by omega
    simp only [e] at ih
    exact ⟨_, v, _, rfl, rfl, q, ih⟩
section
variable {X : Cx} {Wx : WX'} {a : Expr} {ea : EX D} {p p2 pos pos2 : Pos}
theorem dn_dictEn (hc : X.calm = true) (hg : Gl X "dict") (hm : X.mg "dict" = none) (hg2 : Gl X "enumerate") (hm2 : X.mg "enumerate" = none) (ha : DP X Wx a ea)
    (na : starEach [a] X.env = (false, eval a X.env) :: starEach [] X.env := by rfl) (na2 : starEach [.Call (.Name "enumerate" p2) [a] [] pos2] X.env = (false, eval (.Call (.Name "enumerate" p2) [a] [] pos2) X.env) :: starEach [] X.env := by rfl) :
    DN X Wx (.Call (.Name "dict" p) [.Call (.Name "enumerate" p2) [a] [] pos2] [] pos) (eUn bDEn ea) := ⟨pe_imp (pe_dictEn hc hg hm hg2 hm2 ha.pe na na2) fun σ H Q ⟨H0, Γ, w, W, wr, s, p⟩ => by
  refine ⟨H0, Γ, w, W, wr, s, (Post.bind p).mono fun d w1 H1 W1 g1 r1 p1 v c => ?_⟩
  obtain ⟨o, z, q⟩ := Post.opt p1
  unfold bDEn at z
  cases e : lsD d with
  | none => rw [e] at z; cases z
  | some ds =>
    rw [e] at z
    cases z
    obtain ⟨a, vs, ex, rp, qa, _⟩ := c.sqL r1 e
    refine ⟨a, vs, ex, qa, fun p hp => ?_⟩
    obtain ⟨f0, n0⟩ := r1.fresh hp r1.len
    exact q _ W1 (Grow.lay hp) (r1.lay hp) p _ upd_same (RepK.merge (repK_en 0 rp) (by rw [RepK])) f0 n0 (newAt g1 r1 hp)⟩
end
end DL

set_option Elab.async false
set_option linter.all false
set_option maxRecDepth 100000
set_option maxHeartbeats 4000000
/-! repr of a dict of whole numbers -/
namespace DL
open PySem PySem.Spec PyProof.Rows L2
def dictI (ks : List (Int × Int)) : PyData := .dict (ks.map fun p => (.int p.1, .int p.2))
theorem reads_pairs {P : Program} {w : World} {h : Heap} : ∀ {es : List DictEntry} {prs : List (Key × Value)} {ks : List (Int × Int)}, Pairs (mixKind P w) es prs → KV (ks.map fun p => ((Sum.inl p.1 : Key), V.int p.2)) prs →
    ReadsAll h (es.map (·.key)) (ks.map fun p => PyData.int p.1) [] ∧ ReadsAll h (es.map (·.val)) (ks.map fun p => PyData.int p.2) []
  | es, prs, [], hp, hk => by
    rw [List.map_nil] at hk
    cases hk
    cases hp
    exact ⟨.nil, .nil⟩
  | es, prs, p :: ks, hp, hk => by
    rw [List.map_cons] at hk
    cases hk with
    | @cons _ kv _ rest h1 h2 =>
      cases hp with
      | @cons e _ es' _ i1 i2 i3 =>
        obtain ⟨r1, r2⟩ := reads_pairs i3 h2
        obtain ⟨e1, t, e2⟩ := h1
        rw [← e1] at i1
        have i1 : keyIs (Sum.inl p.1 : Key) e.key = true := i1
        rcases keyIs_shape i1 with ⟨i, u, z1, z2⟩ | ⟨x, u, z1, z2⟩
        · cases z1
          have c1 := ReadsAll.cons (as := []) (bs := []) (Reads.int (h := h) p.1 u) r1
          have c2 := ReadsAll.cons (as := []) (bs := []) (Reads.int (h := h) p.2 t) r2
          refine ⟨?_, ?_⟩
          · show ReadsAll h (e.key :: es'.map (·.key)) (PyData.int p.1 :: ks.map fun p => PyData.int p.1) []
            rw [z2]; exact c1
          · show ReadsAll h (e.val :: es'.map (·.val)) (PyData.int p.2 :: ks.map fun p => PyData.int p.2) []
            rw [i2, e2]; exact c2
        · cases z1
def rReprD (K : PySem.W.Frag) : List V → Hp → VK → Prop := fun vs H Q => ∃ (a : Addr) (ks : List (Int × Int)), vs = [.ref a] ∧ Rd H a (.dK (ks.map fun p => ((Sum.inl p.1 : Key), V.int p.2))) ∧ (dictI ks).showable = true ∧ (dictI ks).depth ≤ 64 ∧ (dictI ks).shown.length ≤ sizeLine ∧ Q (.str (dictI ks).shown) H
theorem cr_reprD {X : Cx} (hu : X.A.units + 66 < cLine) (hgd : X.A.guards = some []) : CallR X (.builtin "repr") (rReprD X.K) := fun pins s σ H vs us Q I r ⟨a, ks, e, rd, so, dp, sz, q⟩ => by
  subst e
  obtain ⟨u, eu, ru⟩ := Vals.one r
  subst eu
  cases ru
  obtain ⟨_, hd, prs, rel, o, es, ep, ho, hx, hdat, _, hpr, _⟩ := dk_rd I.hok rd
  obtain ⟨r1, r2⟩ := reads_pairs (h := s.heap) hpr rel
  have rr : Reads s.heap (.ref a) (dictI ks) (a :: [] ++ []) := by
    refine Reads.dict ho hx.1 hdat ?_ ?_
    · rw [List.map_map]; exact r1
    · rw [List.map_map]; exact r2
  exact PySem.repr_of_reads' rr so (fun _ z => by
    rw [List.append_nil, List.mem_singleton] at z
    rw [z] at hd
    simp at hd) hgd (by omega) (fun _ _ e => e) (fun h' u tk hk => ⟨.str _, H, I.kept hk, ⟨_, rfl⟩, q⟩) sz
def kvI : List (D × D) → Option (List (Int × Int))
  | [] => some []
  | (.int i, .int j) :: r => (kvI r).map ((i, j) :: ·)
  | _ => none
theorem kvI_rep {K : PySem.W.Frag} {mg : Str → Option Value} {W : Wst} : ∀ {kvs : List (D × D)} {ks : List (Int × Int)} {kk : List (Key × V)}, kvI kvs = some ks → RepK K mg W kvs kk → kk = ks.map fun p => ((Sum.inl p.1 : Key), V.int p.2)
  | [], ks, kk, e, h => by
    cases e
    rw [RepK] at h
    exact h
  | (k, d) :: r, ks, kk, e, h => by
    rw [RepK] at h
    obtain ⟨q, v, t, e1, e2, x, y⟩ := h
    subst e1
    cases k with
    | int i =>
      cases d with
      | int j =>
        have e : (kvI r).map ((i, j) :: ·) = some ks := e
        cases z : kvI r with
        | none => rw [z] at e; cases e
        | some ks' =>
          rw [z] at e
          cases e
          rw [Rep] at x
          rw [kvI_rep z y, x]
          cases q with
          | inl i' => cases e2; rfl
          | inr s => cases e2
      | _ => cases e
    | _ => cases e
def reprOk (ks : List (Int × Int)) : Bool := (dictI ks).showable && (decide ((dictI ks).depth ≤ 64) && decide ((dictI ks).shown.length ≤ sizeLine))
def bReprD : List D → Option D
  | [.dck kvs] => (kvI kvs).bind fun ks => if reprOk ks = true then some (.str (dictI ks).shown) else none
  | _ => none
def bReprA (ds : List D) : Option D := (bRepr ds).or (bReprD ds)
theorem dcl_reprD {X : Cx} (hu : X.A.units + 66 < cLine) (hgd : X.A.guards = some []) : DCl X (.builtin "repr") bReprD := by
  refine ⟨_, cr_reprD hu hgd, fun w H W ds d vs Q wr c e q => ?_⟩
  unfold bReprD at e
  split at e
  · rename_i kvs
    obtain ⟨v, rfl, cv⟩ := paired1 c
    cases z : kvI kvs with
    | none => rw [z] at e; cases e
    | some ks =>
      rw [z] at e
      have e : (if reprOk ks = true then some (D.str (dictI ks).shown) else none) = some d := e
      split at e
      · rename_i hh
        cases e
        unfold reprOk at hh
        rw [Bool.and_eq_true, Bool.and_eq_true] at hh
        obtain ⟨a, ex, kk, qa, rp⟩ := cv.dck wr
        have ek := kvI_rep z rp
        subst ek
        exact ⟨a, ks, by rw [ex], qa, hh.1, of_decide_eq_true hh.2.1, of_decide_eq_true hh.2.2, q _ _ _ (Grow.refl _ _) wr (by rw [Rep])⟩
      · cases e
  · cases e
theorem dcl_reprA {X : Cx} (hu : X.A.units + 66 < cLine) (hgd : X.A.guards = some []) : DCl X (.builtin "repr") bReprA := (dcl_repr hu hgd).or (dcl_reprD hu hgd)
end DL

set_option Elab.async false
set_option linter.all false
set_option maxRecDepth 100000
set_option maxHeartbeats 4000000
/-! {k: v, ..} -/
namespace DL
open PySem PySem.Spec PyProof.Rows L2
def ePair (fk fv : EX D) (l : EX (List (D × D))) : EX (List (D × D)) := eBind fk fun k => eBind fv fun v => eBind l fun ps => ePure ((k, v) :: ps)
def eDisp (f : EX (List (D × D))) : EX D := eBind f fun ps => fun _ => if (ps.all fun p => (toKey p.1).isSome) = true ∧ ps.length ≤ 15 then M.pure (.dck (dkMerge [] ps)) else M.stuck
def RpP (K : PySem.W.Frag) (mg : Str → Option Value) (W : Wst) : List (D × D) → List (V × V) → Prop
  | [], vs => vs = []
  | (k, d) :: ps, vs => ∃ x y r, vs = (x, y) :: r ∧ Rep K mg W k x ∧ Rep K mg W d y ∧ RpP K mg W ps r
theorem RpP.keys {K : PySem.W.Frag} {mg : Str → Option Value} {W : Wst} : ∀ {ps : List (D × D)} {vs : List (V × V)}, (ps.all fun p => (toKey p.1).isSome) = true → RpP K mg W ps vs → ∃ kvs : List (Key × V), vs = kvs.map (fun kv => (kV kv.1, kv.2)) ∧ RepK K mg W ps kvs ∧ kvs.length = ps.length
  | [], vs, _, h => ⟨[], h, by rw [RepK], rfl⟩
  | (k, d) :: ps, vs, ha, h => by
    obtain ⟨x, y, r, e, c1, c2, t⟩ := h
    rw [List.all_cons, Bool.and_eq_true] at ha
    obtain ⟨q', hq⟩ := Option.isSome_iff_exists.mp ha.1
    have ek : k = keyD q' := toKey_keyD hq
    subst ek e
    obtain ⟨kvs, e2, h2, h3⟩ := RpP.keys ha.2 t
    refine ⟨(q', y) :: kvs, ?_, ?_, by rw [List.length_cons, List.length_cons, h3]⟩
    · rw [List.map_cons, ← e2, Rep.key c1]
    · rw [RepK]
      exact ⟨q', y, kvs, rfl, rfl, c2, h2⟩
structure DPr (X : Cx) (Wx : WX') (pos : Pos) (keys : List (Option Expr)) (vals : List Expr) (f : EX (List (D × D))) : Prop where
  ex : ∃ trs, PPs X pos keys vals trs ∧ ∀ (σ : L2.St) (H : Hp) (R : List (V × V) → Hp → Prop), (∃ H0 Γ w W, WR X.K X.mg w H W ∧ SR X.K X.mg H0 Γ σ H W ∧ Post X.K X.mg (fun c o H => Wx c o σ H) W H (f Γ w) fun ps w' H' W' => ∀ vs, RpP X.K X.mg W' ps vs → R vs H') → tPairs trs σ H R
section
variable {X : Cx} {Wx : WX'} {pos : Pos} {ke ve : Expr} {keys : List (Option Expr)} {vals : List Expr} {fk fv : EX D} {f : EX (List (D × D))}
theorem dpr_nil : DPr X Wx pos [] [] eNil := ⟨[], pps_nil, fun σ H R ⟨H0, Γ, w, W, wr, s, p⟩ => p H W (Grow.refl _ _) wr [] rfl⟩
theorem dpr_cons (hk : DF X Wx ke fk) (hv : DF X Wx ve fv) (hr : DPr X Wx pos keys vals f) : DPr X Wx pos (some ke :: keys) (ve :: vals) (ePair fk fv f) := by
  obtain ⟨trs, h1, h2⟩ := hr.ex
  refine ⟨_, pps_cons hk.pe hv.pe h1, fun σ H R ⟨H0, Γ, w, W, wr, s, p⟩ => ?_⟩
  refine ⟨H0, Γ, w, W, wr, s, (Post.bind p).mono fun k w1 H1 W1 g1 r1 p1 v c1 => ?_⟩
  refine ⟨H0, Γ, w1, W1, r1, s.grow g1, (Post.bind p1).mono fun y w2 H2 W2 g2 r2 p2 v2 c2 => ?_⟩
  refine h2 σ H2 _ ⟨H0, Γ, w2, W2, r2, (s.grow g1).grow g2, (Post.bind p2).mono fun ps w3 H3 W3 g3 r3 p3 vs hvs => ?_⟩
  exact p3 H3 W3 (Grow.refl _ _) r3 ((v, v2) :: vs) ⟨v, v2, vs, rfl, Rep.le (g2.le.trans g3.le) _ _ c1, Rep.le g3.le _ _ c2, hvs⟩
theorem dn_disp (h : DPr X Wx pos keys vals f) (hall : keys.all (·.isSome) = true) (hl : keys.length = vals.length) (h0 : keys ≠ []) (h15 : keys.length ≤ 15) : DN X Wx (.Dict keys vals pos) (eDisp f) := by
  obtain ⟨trs, h1, h2⟩ := h.ex
  refine ⟨pe_imp (pe_disp h1 hall hl h0 h15) fun σ H Q ⟨H0, Γ, w, W, wr, s, p⟩ D hD => ?_⟩
  obtain ⟨f0, n0⟩ := wr.fresh hD wr.len
  have g0 : Grow W H W (upd H D (.dK [])) := Grow.lay hD
  have r0 := wr.lay (o := .dK []) hD
  refine h2 σ _ _ ⟨H0, Γ, w, W, r0, s.grow g0, (Post.later g0 (Post.bind' p)).mono fun ps w1 H1 W1 g1 r1 p1 vs hvs => ?_⟩
  have e1 := g1.keep D _ upd_same n0
  have n1 := g1.nad upd_same n0
  have f1 := g1.nofz D _ upd_same trivial f0 n0
  dsimp only at p1
  split at p1
  rotate_left
  · exact p1.elim
  rename_i hh
  obtain ⟨kvs, ek, hr, hlen⟩ := RpP.keys hh.1 hvs
  refine ⟨e1, kvs, ek, by rw [hlen]; exact hh.2, ?_⟩
  have gg : Grow W H W1 (upd H1 D (.dK (mergeK [] kvs))) := by
    refine ⟨g1.le, fun a o e n => ?_, fun a o e m f n => ?_, fun a o n e z => ?_⟩
    · rw [upd_ne (ne_of_none e hD)]
      exact (g0.trans g1).keep a o e n
    · exact (g0.trans g1).nofz a o e m f n
    · exact (g0.trans g1).noad a o n e z
  exact p1 _ W1 gg (r1.mut f1 n1) D _ upd_same (RepK.merge hr (by rw [RepK])) f1 n1 hD
end
end DL

set_option Elab.async false
set_option linter.all false
set_option maxRecDepth 100000
set_option maxHeartbeats 4000000
/-! == of two lists that hold dicts of whole numbers, and plain data: true where all is equal -/
namespace DL
open PySem PySem.Spec PyProof.Rows L2
def findI (ls : List (Int × Int)) (k : Int) : Option Int := (ls.find? fun q => decide (q.1 = k)).map (·.2)
def kvV (ls : List (Int × Int)) : List (Key × V) := ls.map fun p => ((Sum.inl p.1 : Key), V.int p.2)
theorem val_find : ∀ (ls : List (Int × Int)) (k : Int), valV (kvV ls) (Sum.inl k) = (findI ls k).map V.int
  | [], k => rfl
  | (a, b) :: ls, k => by
    have ih := val_find ls k
    unfold valV findI kvV at *
    rw [List.map_cons, List.find?_cons, List.find?_cons]
    by_cases h : a = k
    · subst h; simp
    · have h1 : decide ((Sum.inl a : Key) = Sum.inl k) = false := decide_eq_false fun e => h (by cases e; rfl)
      rw [h1, decide_eq_false h]
      exact ih
def PI (K : PySem.W.Frag) (H : Hp) (x y : V) : Prop := (∃ d e, Dp K H x d ∧ Dp K H y e ∧ d.canLay0 = true ∧ e.canLay0 = true ∧ d.depth ≤ 60 ∧ PyData.eqv d e = true) ∨
  ∃ a b ks ls, x = .ref a ∧ y = .ref b ∧ Rd H a (.dK (kvV ks)) ∧ Rd H b (.dK (kvV ls)) ∧ ks.length = ls.length ∧ ∀ p ∈ ks, findI ls p.1 = some p.2
section
variable {X : Cx} {pins : List (Addr × Obj)} {σ : L2.St} {H : Hp} {s : Shared}
theorem pi_run (I : Inv X pins σ H s) {A : Around} (hu : A.units + 62 < cLine) {x y : V} {v u : Value} (h : PI X.K H x y) (rx : RelV x v) (ry : RelV y u) : SeqAt.EqP X.prog X.w A s v u true := by
  rcases h with ⟨d, e, h1, h2, c1, c2, hd, he⟩ | ⟨a, b, ks, ls, rfl, rfl, ha, hb, hl, hp⟩
  · obtain ⟨as, r1⟩ := Dp.reads I d x v h1 rx
    obtain ⟨bs, r2⟩ := Dp.reads I e y u h2 ry
    have := SeqAt.eqAt_reads d e A s v u as bs r1 r2 c1 c2 (by have := Nat.min_le_left d.depth e.depth; omega)
    rw [he] at this
    exact this.eqP
  · cases (show v = Value.ref a from rx)
    cases (show u = Value.ref b from ry)
    by_cases e : a = b
    · subst e
      exact (SeqAt.EqAt.same _).eqP
    · refine SeqAt.eqP_refs e fun E Q q => ?_
      obtain ⟨_, ya, va, ra, da⟩ := dk_rd I.hok ha
      obtain ⟨_, yb, vb, rb, db⟩ := dk_rd I.hok hb
      refine PySem.W.rcP_dicts (knd := mixKind X.prog X.w) (r := true) ya yb da db (by omega) (fun _ => hits_run (F := fun x y => x = y ∧ flatB x = true) (fun x y v u h r1 r2 => ?_) rb ra fun p hm => ?_) E Q ?_
      · obtain ⟨rfl, f⟩ := h
        exact (eqAt_same r1 r2 f).eqP
      · obtain ⟨q, hq, rfl⟩ := List.mem_map.mp hm
        exact ⟨.int q.2, by dsimp only; rw [val_find, hp q hq]; rfl, rfl, rfl⟩
      · have e : va.length = vb.length := by
          rw [← ra.length, ← rb.length]
          unfold kvV
          rw [List.length_map, List.length_map]
          exact hl
        rw [show (va.length == vb.length && true) = true from by rw [e]; simp]
        exact q
end
def rEqI (K : PySem.W.Frag) : R2 := fun x y H Q => ∃ a b xs ys, x = .ref a ∧ y = .ref b ∧ SqL K H a xs ∧ SqL K H b ys ∧ Paired (PI K H) xs ys ∧ Q (.bl true) H
theorem op_eqI {X : Cx} (hu : X.A.units + 64 < cLine) : OpR X (compareOp .Eq) (rEqI X.K) := by
  intro pins s σ H x y v u Q I rx ry h
  obtain ⟨a, b, xs, ys, rfl, rfl, ha, hb, hp, q⟩ := h
  exact eqR_run I (A := X.A) (F := PI X.K H) (by omega) (fun x y v u h r1 r2 => pi_run I (by show X.A.units + 1 + 62 < cLine; omega) h r1 r2) (.inl ⟨a, b, xs, ys, rfl, rfl, ha, hb, hp⟩) rx ry _ _ ⟨.bl true, H, I, rfl, q⟩
def eqKD : D → D → Bool
  | .dck ks, .dck ls => (match kvI ks, kvI ls with
    | some a, some b => decide (a.length = b.length) && a.all fun p => decide (findI b p.1 = some p.2)
    | _, _ => false)
  | _, _ => false
def itEq (x y : D) : Bool := (x.toPy.canLay0 && (y.toPy.canLay0 && (decide (x.toPy.depth ≤ 60) && PyData.eqv x.toPy y.toPy))) || eqKD x y
def itEqs : List D → List D → Bool
  | [], [] => true
  | x :: xs, y :: ys => itEq x y && itEqs xs ys
  | _, _ => false
def dEqI (a b : D) : Option D := (lsD a).bind fun ds => (lsD b).bind fun es => if itEqs ds es = true then some (.bl true) else none
def dEqA (a b : D) : Option D := (dEq a b).or (dEqI a b)
section
variable {K : PySem.W.Frag} {mg : Str → Option Value} {w : Wd} {H : Hp} {W : Wst}
theorem pi_of (wr : WR K mg w H W) {d e : D} {x y : V} (h1 : Rep K mg W d x) (h2 : Rep K mg W e y) (hh : itEq d e = true) : PI K H x y := by
  unfold itEq at hh
  rw [Bool.or_eq_true] at hh
  rcases hh with hh | hh
  · rw [Bool.and_eq_true, Bool.and_eq_true, Bool.and_eq_true] at hh
    exact .inl ⟨_, _, Con.dp wr hh.1 (.inl h1), Con.dp wr hh.2.1 (.inl h2), hh.1, hh.2.1, of_decide_eq_true hh.2.2.1, hh.2.2.2⟩
  · unfold eqKD at hh
    split at hh
    · rename_i ks ls
      split at hh
      · rename_i a b z1 z2
        rw [Bool.and_eq_true] at hh
        obtain ⟨p, ex, kk, qa, ra⟩ := Con.dck wr (.inl h1)
        obtain ⟨q, ey, ll, qb, rb⟩ := Con.dck wr (.inl h2)
        have e1 := kvI_rep z1 ra
        have e2 := kvI_rep z2 rb
        subst e1 e2
        exact .inr ⟨p, q, a, b, ex, ey, qa, qb, of_decide_eq_true hh.1, fun r hr => of_decide_eq_true (List.all_eq_true.mp hh.2 r hr)⟩
      · cases hh
    · cases hh
theorem pi_all (wr : WR K mg w H W) : ∀ {ds es : List D} {vs us : List V}, Reps K mg W ds vs → Reps K mg W es us → itEqs ds es = true → Paired (PI K H) vs us
  | [], [], vs, us, h1, h2, _ => by
    rw [Reps] at h1 h2
    subst h1 h2
    exact .nil
  | d :: ds, e :: es, vs, us, h1, h2, hh => by
    rw [Reps] at h1 h2
    obtain ⟨v, r, e1, q1, t1⟩ := h1
    obtain ⟨u, r', e2, q2, t2⟩ := h2
    subst e1 e2
    rw [itEqs, Bool.and_eq_true] at hh
    exact .cons (pi_of wr q1 q2 hh.1) (pi_all wr t1 t2 hh.2)
  | [], _ :: _, _, _, _, _, hh => by cases hh
  | _ :: _, [], _, _, _, _, hh => by cases hh
end
theorem dop_eqI {X : Cx} (hu : X.A.units + 64 < cLine) : DOp X (compareOp .Eq) dEqI := by
  refine ⟨_, op_eqI hu, fun w H W d1 d2 d x y Q wr c1 c2 e q => ?_⟩
  unfold dEqI at e
  cases e1 : lsD d1 with
  | none => rw [e1] at e; cases e
  | some ds =>
    cases e2 : lsD d2 with
    | none => rw [e1, e2] at e; cases e
    | some es =>
      rw [e1, e2] at e
      have e : (if itEqs ds es = true then some (D.bl true) else none) = some d := e
      split at e
      · rename_i hh
        cases e
        obtain ⟨a, vs, ex, rp, qa, _⟩ := c1.sqL wr e1
        obtain ⟨b, us, ey, rq, qb, _⟩ := c2.sqL wr e2
        exact ⟨a, b, vs, us, ex, ey, qa, qb, pi_all wr rp rq hh, q _ _ _ (Grow.refl _ _) wr (by rw [Rep])⟩
      · cases e
theorem dop_eqA {X : Cx} (hu : X.A.units + 64 < cLine) : DOp X (compareOp .Eq) dEqA := (dop_eq hu).or (dop_eqI hu)
end DL

set_option Elab.async false
set_option linter.all false
set_option maxRecDepth 100000
set_option maxHeartbeats 4000000
/-! lists of lists that are changed: the inner ones are cells; x[i][j] = e, x[i][j] op= e -/
namespace DL
open PySem PySem.Spec PyProof.Rows L2
def eCell (f : EX D) : EX D := eBind f fun d => fun _ w => match d with
  | .lst ds => .ok (.cell w.length) (w ++ [ds])
  | _ => .stuck
section
variable {X : Cx} {Wx : WX'} {e : Expr} {f : EX D}
/-- a new list, a cell from now on -/
theorem df_cell (h : DN X Wx e f) : DF X Wx e (eCell f) := ⟨pe_imp h.pe fun σ H Q ⟨H0, Γ, w, W, wr, s, p⟩ => ⟨H0, Γ, w, W, wr, s, (Post.bind' p).mono fun d w1 H1 W1 g1 r1 p1 a o e1 e2 e3 e4 e5 => by
  cases d with
  | lst ds =>
    cases o with
    | lst vs =>
      have p1 : ∀ H' W', Grow W H W' H' → WR X.K X.mg (w1 ++ [ds]) H' W' → ∀ v, Rep X.K X.mg W' (.cell w1.length) v → Q v H' := p1
      have l : Wle W1 (W1.cell a) := Wle.cell
      have hn : (W1.cell a).ads[w1.length]? = some a := by
        show (W1.ads ++ [a])[w1.length]? = some a
        rw [← r1.len, List.getElem?_append_right (Nat.le_refl _)]; simp
      refine p1 H1 (W1.cell a) ?_ ?_ (.ref a) (by rw [Rep]; exact ⟨a, hn, rfl⟩)
      · refine ⟨g1.le.trans l, g1.keep, g1.nofz, fun b u n hb q => ?_⟩
        rcases cell_get q with q | ⟨_, q⟩
        · exact g1.noad b u n hb q
        · exfalso
          subst q
          rw [e5] at hb; cases hb
      · refine ⟨r1.sub, by show (W1.ads ++ [a]).length = (w1 ++ [ds]).length; rw [List.length_append, List.length_append, r1.len]; rfl, fun n b es q1 q2 => ?_, fun n b q => ?_, fun m n b q1 q2 => ?_⟩
        · rcases cell_get q1 with q | ⟨q, rfl⟩
          · have hl : n < w1.length := by rw [← r1.len]; exact (List.getElem?_eq_some_iff.mp q).1
            rw [List.getElem?_append_left hl] at q2
            obtain ⟨us, h1, h2⟩ := r1.cell n b es q q2
            exact ⟨us, h1, Reps.le l _ _ h2⟩
          · rw [q, r1.len, List.getElem?_append_right (Nat.le_refl _)] at q2
            simp at q2
            subst q2
            exact ⟨vs, e1, Reps.le l _ _ e2⟩
        · rcases cell_get q with q | ⟨_, rfl⟩
          · exact r1.nf n b q
          · exact e3
        · rcases cell_get q1 with t1 | ⟨h1, f1⟩
          · rcases cell_get q2 with t2 | ⟨h2, f2⟩
            · exact r1.nd m n b t1 t2
            · subst f2; exact absurd t1 (e4 m)
          · rcases cell_get q2 with t2 | ⟨h2, _⟩
            · subst f1; exact absurd t2 (e4 n)
            · rw [h1, h2]
    | _ => exact e2.elim
  | _ => exact p1.elim⟩⟩
end
def cellPut (c k v : D) : SX := fun Γ w => match c with
  | .cell n => (match w[n]? with
    | some ds => (match putD (.lst ds) k v with
      | some (.lst ds') => .nx Γ (w.set n ds')
      | _ => .stuck)
    | none => .stuck)
  | _ => .stuck
section
variable {K : PySem.W.Frag} {mg : Str → Option Value} {Wx : WX'} {W W0 : Wst} {H H0 : Hp} {w : Wd} {Γ : Ev} {σ : L2.St}
theorem cellPut_run {D : Ends} {c k v : DL.D} {yo yk yv : V} (gr : Grow W0 H0 W H) (wr : WR K mg w H W) (s : SR K mg H0 Γ σ H W) (co : Rep K mg W c yo) (ck : Con K mg W H k yk) (rv : Rep K mg W v yv)
    (p : PostS K mg Wx H0 W0 W (cellPut c k v Γ w) D) : rSetA yo yk yv H (fun H' => D.nx σ H') := by
  unfold cellPut at p
  split at p
  · rename_i n
    rw [Rep] at co
    obtain ⟨a, ea, ex⟩ := co
    subst ex
    cases zw : w[n]? with
    | none => rw [zw] at p; exact p.elim
    | some ds =>
      rw [zw] at p
      dsimp only at p
      obtain ⟨vs, h1, h2⟩ := wr.cell n a ds ea zw
      cases z : putD (.lst ds) k v with
      | none => rw [z] at p; exact p.elim
      | some d' =>
        rw [z] at p
        cases d' with
        | lst ds' =>
          dsimp only at p
          refine putD_run (d := .lst ds) (o := .lst vs) wr h1 h2 ck rv z fun o' ro' => ?_
          cases o' with
          | lst vs' => exact p σ _ W (Wle.refl _) (gr.cellSet ea) (wr.cellSet ea ro') (s.cellSet ea)
          | _ => exact ro'.elim
        | _ => exact p.elim
  · exact p.elim
def cellGet (w : Wd) (c k : D) : Option D := match c with
  | .cell n => dIx w (.cell n) k
  | _ => none
theorem cellGet_run {c k x : D} {yo yk : V} (wr : WR K mg w H W) (co : Rep K mg W c yo) (ck : Con K mg W H k yk) (e : cellGet w c k = some x) {Q : VK} (q : ∀ v, Rep K mg W x v → Q v H) : rGetA K yo yk H Q := by
  unfold cellGet at e
  split at e
  · rename_i n
    rw [Rep] at co
    obtain ⟨a, ea, ex⟩ := co
    subst ex
    have e : (w[n]?).bind (fun ds => dIxS (.lst ds) k) = some x := e
    cases zw : w[n]? with
    | none => rw [zw] at e; cases e
    | some ds =>
      rw [zw] at e
      obtain ⟨vs, h1, h2⟩ := wr.cell n a ds ea zw
      exact .inl (dIxS_lst wr (SqL.of h1) h2 ck e q)
  · cases e
end
def sPutE (fo fi fv : EX D) : SX := fun Γ w => (fv Γ w).on fun v w1 => (fo Γ w1).on fun c w2 => (fi Γ w2).on fun k w3 => cellPut c k v Γ w3
def sAugE (h : D → D → Option D) (fo fi fv : EX D) : SX := fun Γ w => (fo Γ w).on fun c w1 => (fi Γ w1).on fun k w2 => (match cellGet w2 c k with
  | some x => (fv Γ w2).on fun y w3 => (match h x y with
    | some z => cellPut c k z Γ w3
    | none => .stuck)
  | none => .stuck)
section
variable {X : Cx} {Wx : WX'} {H0 : Hp} {W0 : Wst} {o e k : Expr} {fo fi fv : EX D} {pos tpos : Pos}
theorem ds_putE (hu : X.A.units + 1 < cLine) (ho : DF X Wx o fo) (hk : DP X Wx k fi) (hv : DF X Wx e fv) (hs : swapsWithSole [.Subscript o k tpos] e pos.line X.env = pure false := by rfl) (hw : swappedStores [.Subscript o k tpos] e X.env = pure none := by rfl)
    (h1 : (assignEach [.Subscript o k tpos] X.env).map (·.2) = [assign (.Subscript o k tpos) X.env] := by rfl)
    (ha : ∀ v, assign (.Subscript o k tpos) X.env v = (do
      let ov ← holding [v] (eval o X.env)
      let iv ← holding [v, ov] (eval k X.env)
      standAt tpos
      holding [v, ov, iv] (setItem ov iv v)
      release [v, ov, iv] []) := by intro _; rfl) : DS X Wx H0 W0 (.Assign [.Subscript o k tpos] e pos) (sPutE fo fi fv) := ⟨ps_imp (ps_asg hv.pe (pg_sub ho.pe hk.pe (set_any hu) ha) hs hw h1) fun D σ H ⟨Γ, w, W, gr, wr, s, p⟩ => by
  refine ⟨H0, Γ, w, W, wr, s, p.on gr fun v w1 H1 W1 g1 r1 gr1 p1 yv cv => ?_⟩
  have s1 := s.grow g1
  refine ⟨H0, Γ, w1, W1, r1, s1, p1.on gr1 fun c w2 H2 W2 g2 r2 gr2 p2 yo co => ?_⟩
  have s2 := s1.grow g2
  refine ⟨H0, Γ, w2, W2, r2, s2, p2.on gr2 fun k w3 H3 W3 g3 r3 gr3 p3 yk ck => ?_⟩
  exact cellPut_run gr3 r3 (s2.grow g3) (Rep.le g3.le _ _ co) ck (Rep.le (g2.le.trans g3.le) _ _ cv) p3⟩
theorem ds_augE {op : Operator} {h : D → D → Option D} (hu : X.A.units + 1 < cLine) (kop : DOp X (inplaceOp op) h) (ho : DF X Wx o fo) (hk : DP X Wx k fi) (hv : DP X Wx e fv)
    (ha : ∀ ov iv new, augStore k ov iv new = (do holding [new, ov, iv] (setItem ov iv new); release [new, ov, iv] []; pure .next) := by intros; rfl) : DS X Wx H0 W0 (.AugAssign (.Subscript o k tpos) op e pos) (sAugE h fo fi fv) := by
  obtain ⟨r, hop, kop⟩ := kop
  refine ⟨ps_imp (ps_augS ho.pe hk.pe (get_any hu) hv.pe hop (set_any hu) ha) fun D σ H ⟨Γ, w, W, gr, wr, s, p⟩ => ?_⟩
  refine ⟨H0, Γ, w, W, wr, s, p.on gr fun c w1 H1 W1 g1 r1 gr1 p1 yo co => ?_⟩
  have s1 := s.grow g1
  refine ⟨H0, Γ, w1, W1, r1, s1, p1.on gr1 fun k w2 H2 W2 g2 r2 gr2 p2 yk ck => ?_⟩
  have s2 := s1.grow g2
  have co2 := Rep.le g2.le _ _ co
  cases z : cellGet w2 c k with
  | none => rw [z] at p2; exact p2.elim
  | some x =>
    rw [z] at p2
    refine cellGet_run r2 co2 ck z fun vx cx => ?_
    refine ⟨H0, Γ, w2, W2, r2, s2, p2.on gr2 fun y w3 H3 W3 g3 r3 gr3 p3 vy cy => ?_⟩
    cases zh : h x y with
    | none => rw [zh] at p3; exact p3.elim
    | some z' =>
      rw [zh] at p3
      refine kop w3 H3 W3 x y z' vx vy _ r3 (.inl (Rep.le g3.le _ _ cx)) cy zh fun v H4 W4 g4 r4 cv => ?_
      exact cellPut_run (gr3.trans g4) r4 ((s2.grow g3).grow g4) (Rep.le (g3.le.trans g4.le) _ _ co2) ((ck.grow g3).grow g4) cv (PostS.later g4.le p3)
end
end DL
namespace DL
open PySem PySem.Spec PyProof.Rows L2
section
variable {X : Cx} {Wx : WX'} {H0 : Hp} {W0 : Wst} {a b : Expr} {i j : Nat} {x y : Str} {f g : EX Sl} {px py pt pt2 pos : Pos} {kt k2 : Nat}
/-- x, y = a, b by a tuple that is made and opened -/
theorem d_parT (hN : X.N.Nodup) (hc : X.calm = true) (ha : DSl X Wx a f) (hb : DSl X Wx b g)
    (hw : swappedStores [.Tuple [.Name x px, .Name y py] kt pt] (.Tuple [a, b] k2 pt2) X.env = pure none)
    (hi : X.N[i]? = some x := by rfl) (hj : X.N[j]? = some y := by rfl) (hij : i ≠ j := by decide) (hx : Loc X.env.scope x := by first | exact Or.inl rfl | exact Or.inr rfl) (hy : Loc X.env.scope y := by first | exact Or.inl rfl | exact Or.inr rfl)
    (hfx : X.fn x = true ∨ X.env.scope.names.lookup x = some .local := by first | exact .inl rfl | exact .inr rfl) (hfy : X.fn y = true ∨ X.env.scope.names.lookup y = some .local := by first | exact .inl rfl | exact .inr rfl)
    (hs : swapsWithSole [.Tuple [.Name x px, .Name y py] kt pt] (.Tuple [a, b] k2 pt2) pos.line X.env = pure false := by rfl)
    (h1 : (assignEach [.Tuple [.Name x px, .Name y py] kt pt] X.env).map (·.2) = [assign (.Tuple [.Name x px, .Name y py] kt pt) X.env] := by rfl)
    (hn : (assignEach [.Name x px, .Name y py] X.env).length = 2 := by rfl) (hst : (assignEach [.Name x px, .Name y py] X.env).findIdx? (·.1) = none := by rfl)
    (ht : (assignEach (.Name x px :: [.Name y py]) X.env).map (·.2) = assign (.Name x px) X.env :: (assignEach [.Name y py] X.env).map (·.2) := by rfl) (ht2 : (assignEach (.Name y py :: []) X.env).map (·.2) = assign (.Name y py) X.env :: (assignEach [] X.env).map (·.2) := by rfl)
    (he : starEach (a :: [b]) X.env = (false, eval a X.env) :: starEach [b] X.env := by rfl) (he2 : starEach (b :: []) X.env = (false, eval b X.env) :: starEach [] X.env := by rfl) :
    DS X Wx H0 W0 (.Assign [.Tuple [.Name x px, .Name y py] kt pt] (.Tuple [a, b] k2 pt2) pos) (sPar i j f g) :=
  ⟨ps_imp (ps_asg (pe_tupM (pa_cons ha.pe (pa_cons hb.pe pa_nil he2) he)) (pg_tup hc (pgs_cons (pg_name hN hi hx hfx) (pgs_cons (pg_name hN hj hy hfy) pgs_nil ht2) ht) hn hst) hs hw h1) fun D σ H ⟨Γ, w, W, gr, wr, s, p⟩ => by
  refine ⟨H0, Γ, w, W, wr, s, p.on gr fun sl w1 H1 W1 g1 r1 gr1 p1 v cv => ?_⟩
  refine ⟨H0, Γ, w1, W1, r1, s.grow g1, p1.on gr1 fun sl2 w2 H2 W2 g2 r2 gr2 p2 v2 cv2 => ?_⟩
  have s1 := s.grow g1
  refine ⟨by rw [PySem.sizeLine_eq]; show 2 ≤ 16777216; omega, fun q o hq hcl hdi => ?_⟩
  refine ⟨q, [v, v2], rfl, .inl (.inr ⟨o, upd_same⟩), rfl, v, [v2], rfl, v2, [], rfl, rfl, ?_⟩
  have t1 : SR X.K X.mg H0 (Γ.set i sl) (σ.set i (some v)) H1 W1 := s1.setSl cv (fun a h => new0 wr gr h) fun j d a h1 h2 _ => own_ne s j d a h1 h2
  have t2 : SR X.K X.mg H0 ((Γ.set i sl).set j sl2) ((σ.set i (some v)).set j (some v2)) H2 W2 := (t1.grow g2).setSl cv2 (fun a h => new0 r1 gr1 h) fun j d a h1 h2 _ => setSl_ne s s1 cv j d a h1 h2
  exact p2 _ _ W2 (Wle.refl _) (gr2.trans (Grow.lay hq)) (r2.lay hq) (t2.grow (Grow.lay hq))⟩
end
end DL

set_option Elab.async false
set_option linter.all false
set_option maxRecDepth 100000
set_option maxHeartbeats 4000000
/-! name = {k: v for ..} on one line -/
namespace DL
open PySem PySem.Spec PyProof.Rows L2
section
variable {X : Cx}
theorem ps_setDc {i : Nat} {y : Str} {py : Pos} {kx vx tg iter : Expr} {ifs : List Expr} {scope : Scope} {own : List (Str × Nat)} {pos spos : Pos} {wi : TI} {g : TG} {tt : TT} {tk tv : TE} (hc : X.calm = true) (hN : X.N.Nodup) (hy : X.N[i]? = some y) (hyl : X.env.scope.names.lookup y = some .local)
    (hsw : swapsWith (.DictComp kx vx [⟨tg, iter, ifs, 0⟩] scope pos) (some (.Name y py)) spos.line X.env = pure true) (hi : L2.PI X tg iter wi) (ok : BlkOk X.N X.env.scope scope own)
    (hg : ∀ (s : Shared) (H : Hp) (C : Addr) (cl : List (Str × Addr)) (fp : List Addr), PG (X.blk s H scope (compEnvC scope cl C X.env) fp) tg g) (ht : ∀ (s : Shared) (H : Hp) (C : Addr) (cl : List (Str × Addr)) (fp : List Addr), PTs (X.blk s H scope (compEnvC scope cl C X.env) fp) ifs tt)
    (hk : ∀ (s : Shared) (H : Hp) (C : Addr) (cl : List (Str × Addr)) (fp : List Addr), PE (X.blk s H scope (compEnvC scope cl C X.env) fp) kx tk)
    (he : ∀ (s : Shared) (H : Hp) (C : Addr) (cl : List (Str × Addr)) (fp : List Addr), PE (X.blk s H scope (compEnvC scope cl C X.env) fp) vx tv) (hs : ∀ x, foldedSetIterable iter X.env x = pure x := by intro _; rfl) :
    PS X (.Assign [.Name y py] (.DictComp kx vx [⟨tg, iter, ifs, 0⟩] scope pos) spos) (tAsg (tDc wi g tt tk tv (own.map (·.2))) (gName i)) := by
  refine ⟨fun pins s σ H D I h => ?_⟩
  rw [exec_Assign_Name_used _ _ _ _ hsw]
  refine wpAny_bind (wpAny_standAt (wpAny_bind ?_))
  show wpAny _ X.A (do let _ ← comprehension (.DictComp kx vx [⟨tg, iter, ifs, 0⟩] scope pos) scope X.env (firstIterPos [⟨tg, iter, ifs, 0⟩] pos) newDict false (eval iter X.env) (some (assign (.Name y py) X.env))) _ _ s
  have h : tDc wi g tt tk tv (own.map (·.2)) σ H (fun x H1 => gName i x σ H1 D.nx) := h
  refine wpAny_bind (thn (dc_core (Qf := fun _ s' => SP X pins D .next s') hc hN I hi ok hg ht hk he hs h fun L C s' m H' I' q hn f => ?_) fun _ s' hq => wpAny_pure (wpAny_pure hq))
  show wpAny _ _ (assign (.Name y py) X.env (.ref L)) _ _ _
  refine wpAny_assign_Name (store_ok2 (v := V.ref L) I' hN hy (.inl hyl) rfl (fun s2 I2 ⟨a, sb, ha⟩ => ?_) (.inr hyl))
  obtain ⟨f0, f1, f2, f3, f4, f5⟩ := f
  have haC : C ≠ a := by
    rcases ha with z | z
    · rw [z]; exact f1
    · exact fun e => f4 y a z e.symm
  refine ⟨m, hn.sameBut sb haC, fun h3 sb3 => ?_⟩
  exact ⟨_, H', I2.turned (t' := s2.toks) (fun b o hb e => (sb3.2 b hb).trans e) f0 f1 f3 f4 f5, q⟩
theorem sw_trueD {kx vx : Expr} {gs : List Comprehension} {scope : Scope} {pos py : Pos} {y : Str} {l : Nat} {env : Env} (hk : env.scope.kind = .function) (hy : env.scope.names.lookup y = some .local) (hl : (py.line == pos.line) = true)
    (ha : (scope.names.any fun (n, k) => n == y && (k == .local || k == .cell)) = false) : swapsWith (.DictComp kx vx gs scope pos) (some (.Name y py)) l env = pure true := by
  have ky : env.kindOf y = some .local := hy
  have hb : env.blockKind = .function := by unfold Env.blockKind; rw [hk]; rfl
  unfold swapsWith
  simp only [hb, ky, ha, Expr.pos, hl]
  rfl
variable {Wx : WX'} {H0 : Hp} {W0 : Wst} {i : Nat} {x : Str} {pos pos' : Pos}
theorem d_setDc {kx vx tg iter : Expr} {ifs : List Expr} {scope : Scope} {own : List (Str × Nat)} {fi : EX (List D)} {ft : FT} {tt : EX Bool} {tk tv : EX D} {is : List Nat} {lpos : Pos} (hN : X.N.Nodup) (hc : X.calm = true) (hsw : swapsWith (.DictComp kx vx [⟨tg, iter, ifs, 0⟩] scope lpos) (some (.Name x pos')) pos.line X.env = pure true)
    (hi : DIP X Wx tg iter fi) (ok : BlkOk X.N X.env.scope scope own) (hsub : ∀ i ∈ is, i ∈ own.map (·.2))
    (hg : ∀ (s : Shared) (H : Hp) (C : Addr) (cl : List (Str × Addr)) (fp : List Addr), DG (X.blk s H scope (compEnvC scope cl C X.env) fp) tg is ft) (ht : ∀ (s : Shared) (H : Hp) (C : Addr) (cl : List (Str × Addr)) (fp : List Addr), DTs (X.blk s H scope (compEnvC scope cl C X.env) fp) Wno ifs tt)
    (hk : ∀ (s : Shared) (H : Hp) (C : Addr) (cl : List (Str × Addr)) (fp : List Addr), DF (X.blk s H scope (compEnvC scope cl C X.env) fp) Wno kx tk)
    (he : ∀ (s : Shared) (H : Hp) (C : Addr) (cl : List (Str × Addr)) (fp : List Addr), DF (X.blk s H scope (compEnvC scope cl C X.env) fp) Wno vx tv)
    (hy : X.N[i]? = some x := by rfl) (hyl : X.env.scope.names.lookup x = some .local := by rfl) (hs : ∀ x, foldedSetIterable iter X.env x = pure x := by intro _; rfl) :
    DS X Wx H0 W0 (.Assign [.Name x pos'] (.DictComp kx vx [⟨tg, iter, ifs, 0⟩] scope lpos) pos) (sSetN i (eDc fi (own.map (·.2)) ft tt tk tv)) :=
  ds_setN (ps_setDc hc hN hy hyl hsw hi.pi ok (fun s H C cl fp => (hg s H C cl fp).pg) (fun s H C cl fp => (ht s H C cl fp).pts) (fun s H C cl fp => (hk s H C cl fp).pe) (fun s H C cl fp => (he s H C cl fp).pe) hs) fun _ _ _ h => dc_run hsub h
end
/-! ### t.index(x), whole numbers -/
theorem valsIA : ∀ {ns : List Int} {us : List Value}, Vals (ns.map V.int) us → PyProof.Rows.IntsAre us ns
  | [], us, r => by cases r; exact .nil
  | n :: ns, us, r => by
    cases r with
    | cons rx rt =>
      obtain ⟨t, rfl⟩ := rx
      exact .cons n t (valsIA rt)
def rIndexI (K : PySem.W.Frag) : V → List V → Hp → VK → Prop := fun x xs H Q => ∃ (a : Addr) (ns : List Int) (k : Int), x = .ref a ∧ xs = [.int k] ∧ SqT K H a (ns.map V.int) ∧ k ∈ ns ∧ Q (.int (ns.idxOf k : Nat)) H
theorem mt_indexI {X : Cx} : MtR X "tuple.index" (rIndexI X.K) := by
  intro pins s σ H x xs v us Q I rx rs h
  obtain ⟨a, ns, k, rfl, rfl, hT, hk, q⟩ := h
  cases rx
  obtain ⟨u, rfl, ru⟩ := vals1 rs
  obtain ⟨t, rfl⟩ := ru
  obtain ⟨its, r, ht, hz⟩ := I.tuple hT
  exact PySem.SeqAt.tuple_index_ints ht (valsIA r) hk ⟨.int _, H, I.tok _, ⟨_, rfl⟩, q⟩
def bIndexT (d x : D) : Option D := match d, x with
  | .tup ds, .int k => (intsD ds).bind fun ns => if k ∈ ns then some (.int (ns.idxOf k : Nat)) else none
  | _, _ => none
def eIndexT (f g : EX D) : EX D := eBind f fun d => if isTp d = true then eBind g fun x => (fun _ => M.ofOption (bIndexT d x)) else fun _ => M.stuck
section
variable {X : Cx} {Wx : WX'} {o e : Expr} {f g : EX D} {apos cpos : Pos}
theorem df_indexT (ho : DP X Wx o f) (hv : DP X Wx e g) (hbase : attributeBase o "index" X.env (eval o X.env) = eval o X.env := by rfl)
    (hfew : ((backTo cpos (starEach (e :: []) X.env)).all (fun x => !x.1) && (backToKw cpos (keywordEach [] X.env)).all (fun x => x.1.isSome)
      && decide ((e :: []).length + ([] : List Keyword).length + (if ([] : List Keyword).isEmpty then 0 else 1) < 30)) = true := by rfl)
    (hline : (apos.endLine == cpos.line) = true := by rfl) (hs : starEach (e :: []) X.env = (false, eval e X.env) :: starEach [] X.env := by rfl) (hplain : (backTo cpos (starEach [] X.env)).any (·.1) = false := by rfl) :
    DF X Wx (.Call (.Attribute o "index" apos) [e] [] cpos) (eIndexT f g) := ⟨pe_imp (pe_bmT PySem.F.plainAttrs_tuple PySem.F.slot_tuple_index PySem.F.type_tuple_index mt_indexI ho.pe (eArg_p hv hs) hbase hfew hline hs hplain) fun σ H Q ⟨H0, Γ, w, W, wr, s, p⟩ => by
  refine ⟨H0, Γ, w, W, wr, s, (Post.bind p).mono fun d w1 H1 W1 g1 r1 p1 v c => ?_⟩
  dsimp only at p1
  split at p1
  rotate_left
  · exact p1.elim
  rename_i hl
  cases d with
  | tup ds =>
    obtain ⟨a, vs, ex, qa, rp⟩ := c.tup r1
    refine ⟨⟨a, vs, ex, qa⟩, H0, Γ, w1, W1, r1, s.grow g1, (Post.bind p1).mono fun x w2 H2 W2 g2 r2 p2 v2 c2 => ?_⟩
    obtain ⟨r, z, q⟩ := Post.opt p2
    have q := q H2 W2 (Grow.refl _ _) r2
    have z : bIndexT (.tup ds) x = some r := z
    cases x with
    | int k =>
      have z : ((intsD ds).bind fun ns => if k ∈ ns then some (DL.D.int (ns.idxOf k : Nat)) else none) = some r := z
      cases zi : intsD ds with
      | none => rw [zi] at z; cases z
      | some ns =>
        rw [zi] at z
        have z : (if k ∈ ns then some (DL.D.int (ns.idxOf k : Nat)) else none) = some r := z
        by_cases hk : k ∈ ns
        · rw [if_pos hk] at z
          cases z
          have em := intsD_map zi
          subst em
          obtain ⟨a2, vs2, ex2, qa2, rp2⟩ := (c.grow g2).tup r2
          refine ⟨a2, ns, k, ex2, by rw [c2.int], ?_, hk, q _ (by rw [Rep])⟩
          rw [← reps_ints rp2]
          exact qa2.sq
        · rw [if_neg hk] at z; cases z
    | _ => cases z
  | _ => cases hl⟩
end
end DL

set_option Elab.async false
set_option linter.all false
set_option maxRecDepth 100000
set_option maxHeartbeats 4000000
/-! plain evaluation of the data functions -/
namespace DL
open PySem

theorem bind_ok {α β : Type} {m : M α} {k : α → M β} {a : α} {w w1 : Wd} (h : m w = .ok a w1) : M.bind m k w = k a w1 := by unfold M.bind; rw [h]
theorem noexc_ok {α : Type} {m : M α} {a : α} {w w1 : Wd} (h : m w = .ok a w1) : M.noexc m w = .ok a w1 := by unfold M.noexc; rw [h]
theorem eBind_ok {α β : Type} {f : EX α} {k : α → EX β} {Γ : Ev} {a : α} {w w1 : Wd} (h : f Γ w = .ok a w1) : eBind f k Γ w = k a Γ w1 := by unfold eBind; exact bind_ok h
/-! ### comprehensions -/
theorem comp_pure {α : Type} {tg : FT} {tt : EX Bool} {te : EX D} {Γ : Ev} {w : Wd} (enc : α → D) (p : α → Bool) (f : α → D) : ∀ (xs : List α), (∀ x ∈ xs, ∃ Γ1, tg (enc x) Γ = some Γ1 ∧ tt Γ1 w = .ok (p x) w ∧ (p x = true → te Γ1 w = .ok (f x) w)) →
    eCompL tg tt te Γ (xs.map enc) w = .ok ((xs.filter p).map f) w
  | [], _ => rfl
  | x :: xs, h => by
    obtain ⟨Γ1, h1, h2, h3⟩ := h x (List.mem_cons_self ..)
    have ih := comp_pure enc p f xs fun y hy => h y (List.mem_cons_of_mem _ hy)
    rw [List.map_cons]
    unfold eCompL
    rw [h1]
    dsimp only
    rw [bind_ok (noexc_ok h2)]
    cases hp : p x with
    | false => rw [if_neg (by simp), ih, List.filter_cons_of_neg (by simp [hp])]
    | true => rw [if_pos rfl, bind_ok (noexc_ok (h3 hp)), bind_ok ih, List.filter_cons_of_pos hp]; rfl
theorem eComp_of {fi : EX (List D)} {vs : List Nat} {tg : FT} {tt : EX Bool} {te : EX D} {Γ : Ev} {w w1 w2 : Wd} {ds es : List D} (h : fi Γ w = .ok ds w1) (hl : ds.length ≤ sizeLine) (h2 : eCompL tg tt te (wipeE Γ vs) ds w1 = .ok es w2) : eComp fi vs tg tt te Γ w = .ok (.lst es) w2 := by
  unfold eComp
  rw [bind_ok h, if_pos hl, bind_ok h2]
/-! ### loops -/
theorem while_false {c : EX Bool} {b : SX} {n : Nat} {Γ : Ev} {w w1 : Wd} (h : c Γ w = .ok false w1) : sWhile c b (n + 1) Γ w = .nx Γ w1 := by
  unfold sWhile R.on
  rw [h]; rfl
theorem while_true {c : EX Bool} {b : SX} {n : Nat} {Γ Γ1 : Ev} {w w1 w2 : Wd} (h : c Γ w = .ok true w1) (hb : b Γ w1 = .nx Γ1 w2) : sWhile c b (n + 1) Γ w = sWhile c b n Γ1 w2 := by
  conv => lhs; unfold sWhile R.on
  rw [h]
  dsimp only
  rw [if_pos rfl, hb]; rfl
/-! ### functions -/
theorem defOf_ret {n : Nat} {f : SX} {ds : List D} {w w1 : Wd} {d : D} (h : f (startE n ds) w = .ret d w1) : defOf n f ds w = .ok d w1 := by unfold defOf; rw [h]; rfl
theorem defOf_nx {n : Nat} {f : SX} {ds : List D} {w w1 : Wd} {Γ : Ev} (h : f (startE n ds) w = .nx Γ w1) : defOf n f ds w = .ok .non w1 := by unfold defOf; rw [h]; rfl
theorem seq_nx {f g : SX} {Γ Γ1 : Ev} {w w1 : Wd} (h : f Γ w = .nx Γ1 w1) : sSeq f g Γ w = g Γ1 w1 := by unfold sSeq; rw [h]; rfl
theorem seq_ret {f g : SX} {Γ : Ev} {w w1 : Wd} {d : D} (h : f Γ w = .ret d w1) : sSeq f g Γ w = .ret d w1 := by unfold sSeq; rw [h]; rfl
theorem cMul_l {i j : Int} (h : -18446744073709551616 < i ∧ i < 18446744073709551616) : cMul i j = true := by
  unfold cMul
  rw [Bool.or_eq_true]
  exact .inl (decide_eq_true ⟨by omega, by omega⟩)
theorem cMul_r {i j : Int} (h : -18446744073709551616 < j ∧ j < 18446744073709551616) : cMul i j = true := by
  unfold cMul
  rw [Bool.or_eq_true, Bool.or_eq_true]
  exact .inr (.inl (decide_eq_true ⟨by omega, by omega⟩))
/-! ### ints, rows -/
def rowD (r : List Nat) : D := .tup (r.map fun n => .int (n : Nat))
abbrev natsD (r : List Nat) : List D := r.map fun n => D.int (n : Nat)
theorem toPys_nats : ∀ r : List Nat, toPys (natsD r) = r.map fun n => PyData.int (n : Nat)
  | [] => rfl
  | n :: r => by show toPys (D.int (n : Nat) :: natsD r) = _; rw [toPys, toPys_nats r]; rfl
theorem eqvAll_ints : ∀ r s : List Nat, PyData.eqvAll (r.map fun n => PyData.int (n : Nat)) (s.map fun n => PyData.int (n : Nat)) = decide (r = s)
  | [], [] => rfl
  | [], b :: s => rfl
  | a :: r, [] => rfl
  | a :: r, b :: s => by
    rw [List.map_cons, List.map_cons, PySem.W.eqv_all_cons, eqvAll_ints r s]
    have : PyData.eqv (.int (a : Nat)) (.int (b : Nat)) = decide (a = b) := by
      simp only [PyData.eqv]
      by_cases h : a = b
      · subst h; simp
      · rw [decide_eq_false h]; exact beq_eq_false_iff_ne.mpr (by omega)
    rw [this]
    by_cases h1 : a = b <;> by_cases h2 : r = s <;> simp [h1, h2]
theorem depthAll_nat : ∀ r : List Nat, PyData.depthAll (r.map fun n => PyData.int (n : Nat)) = 0
  | [] => rfl
  | n :: r => by
    have := depthAll_nat r
    rw [List.map_cons, PyData.depthAll, this]; rfl
theorem canLay_nat : ∀ r : List Nat, PyData.canLayAll0 (r.map fun n => PyData.int (n : Nat)) = true
  | [] => rfl
  | n :: r => by
    have := canLay_nat r
    rw [List.map_cons, PyData.canLayAll0, this]; rfl
theorem shaped_row (r : List Nat) : SeqAt.shaped (rowD r).toPy = true := by
  unfold rowD
  rw [D.toPy]
  unfold SeqAt.shaped
  have := toPys_nats r
  unfold natsD at this
  rw [this]
  show (PyData.canLayAll0 _ && _) = true
  rw [canLay_nat, PyData.depth, depthAll_nat]; rfl
theorem eqv_row (r s : List Nat) : PyData.eqv (rowD r).toPy (rowD s).toPy = decide (r = s) := by
  unfold rowD
  rw [D.toPy, D.toPy]
  have h1 := toPys_nats r
  have h2 := toPys_nats s
  unfold natsD at h1 h2
  rw [h1, h2]
  exact eqvAll_ints r s

/-! ### sorting nats -/
theorem insS_map {α β : Type} {le : α → α → Bool} {le' : β → β → Bool} (f : α → β) (h : ∀ a b, le' (f a) (f b) = le a b) (x : α) : ∀ l : List α, insS le' (f x) (l.map f) = (insS le x l).map f
  | [] => rfl
  | y :: l => by
    rw [List.map_cons]
    unfold insS
    rw [h]
    split
    · rfl
    · rw [insS_map f h x l]; rfl
theorem isort_map {α β : Type} {le : α → α → Bool} {le' : β → β → Bool} (f : α → β) (h : ∀ a b, le' (f a) (f b) = le a b) : ∀ l : List α, isort le' (l.map f) = (isort le l).map f
  | [] => rfl
  | x :: l => by
    show insS le' (f x) (isort le' (l.map f)) = _
    rw [isort_map f h l, insS_map f h]; rfl
def leN (a b : Nat) : Bool := decide (a ≤ b)
def geN (a b : Nat) : Bool := decide (b ≤ a)
theorem sLe_f (a b : Nat) : sLe false (.int (a : Nat)) (.int (b : Nat)) = leN a b := by
  unfold sLe
  rw [PySem.W.dataLe_eq]
  show (!PySem.W.dataLt (.int b) (.int a)) = _
  rw [PySem.W.dataLt_int]
  unfold leN
  by_cases h : a ≤ b
  · rw [decide_eq_true h, decide_eq_false (by omega)]; rfl
  · rw [decide_eq_false h, decide_eq_true (by omega)]; rfl
theorem sLe_t (a b : Nat) : sLe true (.int (a : Nat)) (.int (b : Nat)) = geN a b := by
  unfold sLe
  rw [PySem.W.dataLe_eq]
  show (!PySem.W.dataLt (.int a) (.int b)) = _
  rw [PySem.W.dataLt_int]
  unfold geN
  by_cases h : b ≤ a
  · rw [decide_eq_true h, decide_eq_false (by omega)]; rfl
  · rw [decide_eq_false h, decide_eq_true (by omega)]; rfl
theorem sortOk_nats (l : List Nat) (h : l.length ≤ sizeLine) : sortOk (natsD l) = true := by
  unfold sortOk
  have e1 : (natsD l).length ≤ sizeLine := by rw [List.length_map]; exact h
  have e2 : alikes (natsD l) = true := by
    unfold alikes
    rw [Bool.or_eq_true]
    left
    rw [List.all_eq_true]
    intro d hd
    obtain ⟨n, _, rfl⟩ := List.mem_map.mp hd
    rfl
  have e3 : (natsD l).all (fun d => SeqAt.shaped d.toPy && notNon d) = true := by
    rw [List.all_eq_true]
    intro d hd
    obtain ⟨n, _, rfl⟩ := List.mem_map.mp hd
    rfl
  have e4 : (natsD l).all noTup = true := by
    rw [List.all_eq_true]
    intro d hd
    obtain ⟨n, _, rfl⟩ := List.mem_map.mp hd
    rfl
  rw [decide_eq_true e1, e2, e3, e4]
  simp
theorem dSort_f (l : List Nat) (h : l.length ≤ sizeLine) : dSort false (natsD l) = some (.lst (natsD (isort leN l))) := by
  unfold dSort
  rw [if_pos (sortOk_nats l h)]
  congr 2
  exact isort_map (fun n : Nat => D.int (n : Nat)) sLe_f l
theorem dSort_t (l : List Nat) (h : l.length ≤ sizeLine) : dSort true (natsD l) = some (.lst (natsD (isort geN l))) := by
  unfold dSort
  rw [if_pos (sortOk_nats l h)]
  congr 2
  exact isort_map (fun n : Nat => D.int (n : Nat)) sLe_t l
theorem leN_total : PySem.W.TotalLe leN where
  trans := fun a b c h1 h2 => by unfold leN at *; have h1 := of_decide_eq_true h1; have h2 := of_decide_eq_true h2; exact decide_eq_true (by omega)
  total := fun a b => by
    unfold leN
    by_cases h : a ≤ b
    · exact .inl (decide_eq_true h)
    · exact .inr (decide_eq_true (by omega))
theorem geN_total : PySem.W.TotalLe geN where
  trans := fun a b c h1 h2 => by unfold geN at *; have h1 := of_decide_eq_true h1; have h2 := of_decide_eq_true h2; exact decide_eq_true (by omega)
  total := fun a b => by
    unfold geN
    by_cases h : b ≤ a
    · exact .inl (decide_eq_true h)
    · exact .inr (decide_eq_true (by omega))
theorem sortA_f (l : List Nat) (h : l.length ≤ sizeLine) : bSortA [.lst (natsD l)] = some (.lst (natsD (isort leN l))) := by
  unfold bSortA
  have : bSorted false [.lst (natsD l)] = some (.lst (natsD (isort leN l))) := dSort_f l h
  rw [this]; rfl
abbrev Falling (r : List Nat) : Prop := r.Pairwise (fun a b => b ≤ a)
theorem isort_falling (l : List Nat) : Falling (isort geN l) := (isort_pair geN_total l).imp fun h => of_decide_eq_true h
theorem isort_rev (l : List Nat) : (isort leN l).reverse = isort geN l := by
  have h1 : Falling (isort leN l).reverse := by
    rw [Falling, List.pairwise_reverse]
    exact (isort_pair leN_total l).imp fun h => of_decide_eq_true h
  exact List.Perm.eq_of_pairwise (fun a b _ _ h1 h2 => Nat.le_antisymm h2 h1) h1 (isort_falling l) (((List.reverse_perm _).trans (isort_perm leN l)).trans (isort_perm geN l).symm)
theorem falling_uniq {a b : List Nat} (h1 : Falling a) (h2 : Falling b) (hp : a.Perm b) : a = b := List.Perm.eq_of_pairwise (fun a b _ _ h1 h2 => Nat.le_antisymm h2 h1) h1 h2 hp
end DL

set_option Elab.async false
set_option linter.all false
set_option maxRecDepth 100000
set_option maxHeartbeats 4000000
/-! evaluation by rules -/
namespace DL
open PySem
section
variable {α β : Type} {f g k : EX D} {t u : EX Bool} {l m : EX (List D)} {Γ Γ1 Γ2 : Ev} {w w1 w2 w3 : Wd} {a b c d : D} {ds es : List D} {p q : Bool} {i j n : Nat} {F : Fn} {o o2 : EX (Option Int)} {x y : Option Int}
theorem x_pure {a : α} : ePure a Γ w = .ok a w := rfl
theorem x_nil : (eNil : EX (List α)) Γ w = .ok [] w := rfl
theorem x_vF (h : Γ[i]? = some (.frz d)) : vF i Γ w = .ok d w := by unfold vF; rw [h]
theorem x_vP (h : Γ[i]? = some (.frz d)) : vP i Γ w = .ok d w := by unfold vP; rw [h]
theorem x_vPo (h : Γ[i]? = some (.own d)) : vP i Γ w = .ok d w := by unfold vP; rw [h]
theorem x_op {h : D → D → Option D} (h1 : f Γ w = .ok a w1) (h2 : g Γ w1 = .ok b w2) (h3 : h a b = some c) : eOp h f g Γ w = .ok c w2 := by
  unfold eOp; rw [eBind_ok h1, eBind_ok h2, h3]; rfl
theorem x_un {h : D → Option D} (h1 : f Γ w = .ok a w1) (h3 : h a = some c) : eUn h f Γ w = .ok c w1 := by
  unfold eUn; rw [eBind_ok h1, h3]; rfl
theorem x_bl (h1 : f Γ w = .ok (.bl p) w1) : eBl f Γ w = .ok p w1 := by
  unfold eBl; rw [eBind_ok h1]; rfl
theorem x_tru (h1 : f Γ w = .ok d w1) (h2 : dTru d = some p) : eTru f Γ w = .ok p w1 := by
  unfold eTru; rw [eBind_ok h1, h2]; rfl
theorem x_d (h1 : t Γ w = .ok p w1) : eD t Γ w = .ok (.bl p) w1 := by
  unfold eD; rw [eBind_ok h1]; rfl
theorem x_not (h1 : t Γ w = .ok p w1) : eNotB t Γ w = .ok (!p) w1 := by
  unfold eNotB; rw [eBind_ok h1]; rfl
theorem x_and_t (h1 : t Γ w = .ok true w1) (h2 : u Γ w1 = .ok q w2) : eAnd t u Γ w = .ok q w2 := by
  unfold eAnd; rw [eBind_ok h1, if_pos rfl, h2]
theorem x_and_f (h1 : t Γ w = .ok false w1) : eAnd t u Γ w = .ok false w1 := by
  unfold eAnd; rw [eBind_ok h1, if_neg (by simp)]; rfl
theorem x_or_t (h1 : t Γ w = .ok true w1) : eOr t u Γ w = .ok true w1 := by
  unfold eOr; rw [eBind_ok h1, if_pos rfl]; rfl
theorem x_or_f (h1 : t Γ w = .ok false w1) (h2 : u Γ w1 = .ok q w2) : eOr t u Γ w = .ok q w2 := by
  unfold eOr; rw [eBind_ok h1, if_neg (by simp), h2]
theorem x_and (h1 : t Γ w = .ok p w) (h2 : p = true → u Γ w = .ok q w) : eAnd t u Γ w = .ok (p && q) w := by
  cases p with
  | true => exact x_and_t h1 (h2 rfl)
  | false => exact x_and_f h1
theorem x_or (h1 : t Γ w = .ok p w) (h2 : p = false → u Γ w = .ok q w) : eOr t u Γ w = .ok (p || q) w := by
  cases p with
  | true => exact x_or_t h1
  | false => exact x_or_f h1 (h2 rfl)
theorem x_if_t {f g : EX α} {a : α} (h1 : t Γ w = .ok true w1) (h2 : f Γ w1 = .ok a w2) : eIf t f g Γ w = .ok a w2 := by
  unfold eIf; rw [eBind_ok h1, if_pos rfl, h2]
theorem x_if_f {f g : EX α} {a : α} (h1 : t Γ w = .ok false w1) (h2 : g Γ w1 = .ok a w2) : eIf t f g Γ w = .ok a w2 := by
  unfold eIf; rw [eBind_ok h1, if_neg (by simp), h2]
theorem x_if {f g : EX α} {a b : α} (h1 : t Γ w = .ok p w1) (h2 : p = true → f Γ w1 = .ok a w2) (h3 : p = false → g Γ w1 = .ok b w2) : eIf t f g Γ w = .ok (if p = true then a else b) w2 := by
  cases p with
  | true => exact x_if_t h1 (h2 rfl)
  | false => exact x_if_f h1 (h3 rfl)
theorem x_chain {h1 h2 : D → D → Option D} (e1 : f Γ w = .ok a w1) (e2 : g Γ w1 = .ok b w2) (e3 : h1 a b = some (.bl p)) (e4 : k Γ w2 = .ok c w2) (e5 : h2 b c = some (.bl q)) : eChain h1 h2 f g k Γ w = .ok (p && q) w2 := by
  unfold eChain
  rw [eBind_ok e1, eBind_ok e2, e3, eBind_ok (a := p) (w1 := w2) rfl]
  cases p with
  | true => rw [if_pos rfl, eBind_ok e4, e5]; rfl
  | false => rfl
theorem x_call (h1 : l Γ w = .ok ds w1) (h2 : F ds w1 = .ok d w2) : eCall F l Γ w = .ok d w2 := by
  unfold eCall; rw [eBind_ok h1, h2]
theorem x_cl {h : List D → Option D} (h1 : l Γ w = .ok ds w1) (h2 : h ds = some d) : eCl h l Γ w = .ok d w1 := by
  unfold eCl; rw [eBind_ok h1, h2]; rfl
theorem x_cons {f : EX α} {l : EX (List α)} {a : α} {ds : List α} (h1 : f Γ w = .ok a w1) (h2 : l Γ w1 = .ok ds w2) : eCons f l Γ w = .ok (a :: ds) w2 := by
  unfold eCons; rw [eBind_ok h1, eBind_ok h2]; rfl
theorem x_app {l m : EX (List α)} {ds es : List α} (h1 : l Γ w = .ok ds w1) (h2 : m Γ w1 = .ok es w2) : eApp l m Γ w = .ok (ds ++ es) w2 := by
  unfold eApp; rw [eBind_ok h1, eBind_ok h2]; rfl
theorem x_seq (h1 : f Γ w = .ok d w1) (h2 : seqD d = some ds) : eSeq f Γ w = .ok ds w1 := by
  unfold eSeq; rw [eBind_ok h1, h2]; rfl
theorem x_itv (h1 : f Γ w = .ok d w1) (h2 : iterD d = some ds) : eItv f Γ w = .ok ds w1 := by
  unfold eItv; rw [eBind_ok h1, h2]; rfl
theorem x_tup (h1 : l Γ w = .ok ds w1) (h2 : ds.length ≤ sizeLine) : eTup l Γ w = .ok (.tup ds) w1 := by
  unfold eTup; rw [eBind_ok h1, if_pos h2]; rfl
theorem x_lst (h1 : l Γ w = .ok ds w1) (h2 : ds.length ≤ sizeLine) : eLst l Γ w = .ok (.lst ds) w1 := by
  unfold eLst; rw [eBind_ok h1, if_pos h2]; rfl
theorem x_ix (h1 : f Γ w = .ok a w1) (h2 : g Γ w1 = .ok b w2) (h3 : dIx w2 a b = some c) : eIx f g Γ w = .ok c w2 := by
  unfold eIx; rw [eBind_ok h1, eBind_ok h2, h3]; rfl
theorem x_opt {z : Int} (h1 : f Γ w = .ok (.int z) w1) : eOpt f Γ w = .ok (some z) w1 := by
  unfold eOpt; rw [eBind_ok h1]; rfl
theorem x_sl {h : D → Option Int → Option Int → Option D} (h1 : f Γ w = .ok a w1) (h2 : o Γ w1 = .ok x w2) (h3 : o2 Γ w2 = .ok y w3) (h4 : h a x y = some c) : eSl h f o o2 Γ w = .ok c w3 := by
  unfold eSl; rw [eBind_ok h1, eBind_ok h2, eBind_ok h3, h4]; rfl
theorem x_isi {T s : String} (h1 : f Γ w = .ok d w1) (h2 : tyD d = some s) (h3 : tyIs s T = p) : eIsi T f Γ w = .ok p w1 := by
  unfold eIsi; rw [eBind_ok h1, h2, ← h3]; rfl
theorem x_rg1 (h1 : f Γ w = .ok a w1) (h2 : rg1 a = some ds) : eRg1 f Γ w = .ok ds w1 := by
  unfold eRg1; rw [eBind_ok h1, h2]; rfl
theorem x_rg2 (h1 : f Γ w = .ok a w1) (h2 : g Γ w1 = .ok b w2) (h3 : rg2 a b = some ds) : eRg2 f g Γ w = .ok ds w2 := by
  unfold eRg2; rw [eBind_ok h1, eBind_ok h2, h3]; rfl
theorem x_enum (h1 : f Γ w = .ok a w1) (h2 : seqD a = some ds) : eEnum f Γ w = .ok (enumD ds) w1 := by
  unfold eEnum; rw [eBind_ok h1, h2]; rfl
theorem x_zip (h1 : f Γ w = .ok a w1) (h2 : g Γ w1 = .ok b w2) (h3 : both a b = some (ds, es)) : eZip f g Γ w = .ok (zipD ds es) w2 := by
  unfold eZip; rw [eBind_ok h1, eBind_ok h2, h3]; rfl
theorem x_in (h1 : f Γ w = .ok a w1) (h2 : g Γ w1 = .ok b w2) (h3 : dIn a b = some p) : eIn f g Γ w = .ok p w2 := by
  unfold eIn; rw [eBind_ok h1, eBind_ok h2, h3]; rfl
theorem x_notin (h1 : f Γ w = .ok a w1) (h2 : g Γ w1 = .ok b w2) (h3 : dIn a b = some p) : eNotIn f g Γ w = .ok (!p) w2 := by
  unfold eNotIn; rw [eBind_ok h1, eBind_ok h2, h3]; rfl
theorem x_index (h1 : f Γ w = .ok a w1) (hl : isLs a = true) (h2 : g Γ w1 = .ok b w2) (h3 : bIndex a b = some c) : eIndex f g Γ w = .ok c w2 := by
  unfold eIndex; rw [eBind_ok h1, if_pos hl, eBind_ok h2, h3]; rfl
theorem x_sortR (h1 : f Γ w = .ok a w1) (h2 : g Γ w1 = .ok (.bl p) w2) (h3 : bSorted p [a] = some c) : eSortR f g Γ w = .ok c w2 := by
  unfold eSortR; rw [eBind_ok h1, eBind_ok h2]; dsimp only; rw [h3]; rfl
theorem x_fz (h1 : f Γ w = .ok d w1) : eFz f Γ w = .ok (.frz d) w1 := by
  unfold eFz; rw [eBind_ok h1]; rfl
theorem x_ow (h1 : f Γ w = .ok d w1) : eOw f Γ w = .ok (.own d) w1 := by
  unfold eOw; rw [eBind_ok h1]; rfl
theorem x_r1 {z : Int} (h1 : f Γ w = .ok (.int z) w1) : eR1 f Γ w = .ok (0, z) w1 := by
  unfold eR1; rw [eBind_ok h1]; rfl
theorem x_r2 {z v : Int} (h1 : f Γ w = .ok (.int z) w1) (h2 : g Γ w1 = .ok (.int v) w2) : eR2 f g Γ w = .ok (z, v) w2 := by
  unfold eR2; rw [eBind_ok h1, eBind_ok h2]; rfl
theorem x_lrg {r : EX (Int × Int)} {z v : Int} (h1 : r Γ w = .ok (z, v) w1) (h2 : rgD z v = some ds) : eLRg r Γ w = .ok (.lst ds) w1 := by
  unfold eLRg; rw [eBind_ok h1]; dsimp only; rw [h2]; rfl
theorem x_trg {r : EX (Int × Int)} {z v : Int} (h1 : r Γ w = .ok (z, v) w1) (h2 : rgD z v = some ds) : eTRg r Γ w = .ok (.tup ds) w1 := by
  unfold eTRg; rw [eBind_ok h1]; dsimp only; rw [h2]; rfl
/-- a comprehension over what is pure -/
theorem x_comp {α : Type} {fi : EX (List D)} {vs : List Nat} {tg : FT} {tt : EX Bool} {te : EX D} (enc : α → D) (pp : α → Bool) (ff : α → D) (xs : List α) (h : fi Γ w = .ok (xs.map enc) w1) (hl : xs.length ≤ 16777216) (hb : ∀ x ∈ xs, ∃ Γ1, tg (enc x) (wipeE Γ vs) = some Γ1 ∧ tt Γ1 w1 = .ok (pp x) w1 ∧ (pp x = true → te Γ1 w1 = .ok (ff x) w1)) :
    eComp fi vs tg tt te Γ w = .ok (.lst ((xs.filter pp).map ff)) w1 :=
  eComp_of h (by rw [List.length_map, PySem.sizeLine_eq]; exact hl) (comp_pure enc pp ff xs hb)
/-- .. without a test -/
theorem x_map {α : Type} {fi : EX (List D)} {vs : List Nat} {tg : FT} {te : EX D} (enc : α → D) (ff : α → D) (xs : List α) (h : fi Γ w = .ok (xs.map enc) w1) (hl : xs.length ≤ 16777216) (hb : ∀ x ∈ xs, ∃ Γ1, tg (enc x) (wipeE Γ vs) = some Γ1 ∧ te Γ1 w1 = .ok (ff x) w1) :
    eComp fi vs tg (ePure true) te Γ w = .ok (.lst (xs.map ff)) w1 := by
  have := x_comp (vs := vs) (tg := tg) (tt := ePure true) (te := te) enc (fun _ => true) ff xs h hl fun x hx => by
    obtain ⟨Γ1, h1, h2⟩ := hb x hx
    exact ⟨Γ1, h1, rfl, fun _ => h2⟩
  have e : (xs.filter fun _ => true) = xs := by simp
  rw [e] at this
  exact this

/-! statements -/
variable {s s2 : SX} {r : SO}
theorem s_seq (h1 : s Γ w = .nx Γ1 w1) (h2 : s2 Γ1 w1 = r) : sSeq s s2 Γ w = r := by rw [seq_nx h1, h2]
theorem s_seqr (h1 : s Γ w = .ret d w1) : sSeq s s2 Γ w = .ret d w1 := seq_ret h1
theorem s_set (h : f Γ w = .ok d w1) (h2 : Γ.set i (.frz d) = Γ1) : sSet i f Γ w = .nx Γ1 w1 := by unfold sSet R.on; rw [h, ← h2]
theorem s_setN (h : f Γ w = .ok d w1) (h2 : Γ.set i (.own d) = Γ1) : sSetN i f Γ w = .nx Γ1 w1 := by unfold sSetN R.on; rw [h, ← h2]
theorem s_par {e1 e2 : EX Sl} {v1 v2 : Sl} (h1 : e1 Γ w = .ok v1 w1) (h2 : e2 Γ w1 = .ok v2 w2) (h3 : (Γ.set i v1).set j v2 = Γ1) : sPar i j e1 e2 Γ w = .nx Γ1 w2 := by
  unfold sPar R.on; rw [h1]; dsimp only; rw [h2, ← h3]
theorem s_par3 {e1 e2 e3 : EX Sl} {v1 v2 v3 : Sl} (h1 : e1 Γ w = .ok v1 w1) (h2 : e2 Γ w1 = .ok v2 w2) (h3 : e3 Γ w2 = .ok v3 w3) (h4 : ((Γ.set i v1).set j v2).set n v3 = Γ1) : sPar3 i j n e1 e2 e3 Γ w = .nx Γ1 w3 := by
  unfold sPar3 R.on; rw [h1]; dsimp only; rw [h2]; dsimp only; rw [h3, ← h4]
theorem s_ret (h : f Γ w = .ok d w1) : sRet f Γ w = .ret d w1 := by unfold sRet R.on; rw [h]
theorem s_drop (h : f Γ w = .ok d w1) : sDrop f Γ w = .nx Γ w1 := by unfold sDrop R.on; rw [h]
theorem s_nil : sNil Γ w = .nx Γ w := rfl
theorem s_if_t (h : t Γ w = .ok true w1) (h2 : s Γ w1 = r) : sIf t s s2 Γ w = r := by unfold sIf R.on; rw [h]; dsimp only; rw [if_pos rfl, h2]
theorem s_if_f (h : t Γ w = .ok false w1) (h2 : s2 Γ w1 = r) : sIf t s s2 Γ w = r := by unfold sIf R.on; rw [h]; dsimp only; rw [if_neg (by simp), h2]
theorem s_frz (h : frzAt i Γ = Γ1) (h2 : s Γ1 w = r) : sFreeze i s Γ w = r := by unfold sFreeze; rw [h, h2]
theorem s_chg {h : List D → D → Option (List D)} (h0 : Γ[i]? = some (.own (.lst ds))) (h1 : f Γ w = .ok a w1) (h2 : h ds a = some es) (h3 : Γ.set i (.own (.lst es)) = Γ1) : sChgL i h f Γ w = .nx Γ1 w1 := by
  unfold sChgL R.on; rw [h0]; dsimp only; rw [h1]; dsimp only; rw [h2, ← h3]
theorem s_tgt {tg : FT} (h1 : f Γ w = .ok d w1) (h2 : tg d Γ = some Γ1) : sTgt f tg Γ w = .nx Γ1 w1 := by
  unfold sTgt R.on; rw [h1]; dsimp only; rw [h2]
theorem s_for {tg : FT} {fi : EX (List D)} (h1 : fi Γ w = .ok ds w1) (h2 : sForL tg s ds Γ w1 = r) : sFor fi tg s Γ w = r := by
  unfold sFor R.on; rw [h1, ← h2]
theorem s_put (h1 : g Γ w = .ok b w1) (hk : known i Γ = true) (h2 : f Γ w1 = .ok a w2) (h0 : Γ[i]? = some (.own d)) (h3 : putD d a b = some c) (h4 : Γ.set i (.own c) = Γ1) : sPut i f g Γ w = .nx Γ1 w2 := by
  unfold sPut R.on; rw [h1]; dsimp only; rw [if_pos hk, h2]; dsimp only
  unfold sPutAt; rw [h0]; dsimp only; rw [h3, ← h4]
theorem s_augN {h : D → D → Option D} (h0 : Γ[i]? = some (.frz a)) (h1 : f Γ w = .ok b w1) (h2 : h a b = some c) (h3 : Γ.set i (.frz c) = Γ1) : sAugN i h f Γ w = .nx Γ1 w1 := by
  unfold sAugN R.on; rw [h0]; dsimp only; rw [h1]; dsimp only; rw [h2, ← h3]
theorem def_ret {n : Nat} {w1 : Wd} (h : s (startE n ds) w = .ret d w1) : defOf n s ds w = .ok d w1 := defOf_ret h
end

/-! operators -/
section
variable {i j : Int} {m n : Nat} {ds es : List D} {r s : List Nat}
theorem h_add : dAdd (.int i) (.int j) = some (.int (i + j)) := rfl
theorem h_iadd : iAdd (.int i) (.int j) = some (.int (i + j)) := rfl
theorem h_sub : dSub (.int i) (.int j) = some (.int (i - j)) := rfl
theorem h_neg : dNeg (.int i) = some (.int (-i)) := rfl
theorem h_mul_l (h : -18446744073709551616 < i ∧ i < 18446744073709551616) : dMul (.int i) (.int j) = some (.int (i * j)) := by exact if_pos (cMul_l h)
theorem h_mul_r (h : -18446744073709551616 < j ∧ j < 18446744073709551616) : dMul (.int i) (.int j) = some (.int (i * j)) := by exact if_pos (cMul_r h)
theorem h_div (h : 0 < j) (h2 : j.natAbs.log2 < 9000) : dDiv (.int i) (.int j) = some (.int (i / j)) := by exact if_pos (decide_eq_true ⟨h, h2⟩)
theorem h_mod (h : 0 < j) : dMod (.int i) (.int j) = some (.int (i % j)) := by exact if_pos (decide_eq_true h)
theorem h_lt : oLt (.int i) (.int j) = some (.bl (decide (i < j))) := rfl
theorem h_gt : oGt (.int i) (.int j) = some (.bl (decide (j < i))) := rfl
theorem h_le : oLe (.int i) (.int j) = some (.bl (decide (i ≤ j))) := rfl
theorem h_ge : oGe (.int i) (.int j) = some (.bl (decide (j ≤ i))) := rfl
theorem eqv_int : PyData.eqv (.int i) (.int j) = decide (i = j) := by
  simp only [PyData.eqv]
  by_cases h : i = j
  · subst h; simp
  · rw [decide_eq_false h]; exact beq_eq_false_iff_ne.mpr h
theorem h_eq : dEq (.int i) (.int j) = some (.bl (decide (i = j))) := by
  have : dEq (.int i) (.int j) = some (.bl (PyData.eqv (.int i) (.int j))) := rfl
  rw [this, eqv_int]
theorem h_ne : dNe (.int i) (.int j) = some (.bl (!decide (i = j))) := by
  have : dNe (.int i) (.int j) = some (.bl (!PyData.eqv (.int i) (.int j))) := rfl
  rw [this, eqv_int]
theorem h_truI : dTru (.int i) = some (decide (i ≠ 0)) := by
  show some (i != 0) = _
  by_cases h : i = 0
  · subst h; rfl
  · rw [decide_eq_true h]; exact congrArg some (bne_iff_ne.mpr h)
theorem h_truB {b : Bool} : dTru (.bl b) = some b := rfl
theorem h_seqT : seqD (.tup ds) = some ds := rfl
theorem h_seqL : seqD (.lst ds) = some ds := rfl
theorem h_seqR : seqD (rowD r) = some (natsD r) := rfl
theorem h_itT : iterD (.tup ds) = some ds := rfl
theorem h_itL : iterD (.lst ds) = some ds := rfl
theorem h_lenT : bLenS [.tup ds] = some (.int (ds.length : Nat)) := rfl
theorem h_lenL : bLenS [.lst ds] = some (.int (ds.length : Nat)) := rfl
theorem h_lenR : bLenS [rowD r] = some (.int (r.length : Nat)) := by
  show some (D.int ((natsD r).length : Nat)) = _
  rw [List.length_map]
theorem h_tupL : bTuple [.lst ds] = some (.tup ds) := rfl
theorem h_rev : dRev (.lst ds) = some (.lst ds.reverse) := rfl
theorem h_bintI : bInt [.int i] = some (.int i) := rfl
theorem h_bintB {b : Bool} : bInt [.bl b] = some (.int (if b = true then 1 else 0)) := by cases b <;> rfl
theorem h_abs : bAbs [.int i] = some (.int (if i < 0 then -i else i)) := rfl
theorem h_app (h : ds.length < 16777216) {d : D} : hApp ds d = some (ds ++ [d]) := by unfold hApp; rw [PySem.sizeLine_eq, if_pos h]
theorem h_ext (h : ds.length + es.length ≤ 16777216) : hExt ds (.lst es) = some (ds ++ es) := by unfold hExt; dsimp only; rw [PySem.sizeLine_eq, if_pos h]
theorem h_tadd (h : ds.length + es.length ≤ 16777216) : dAdd (.tup ds) (.tup es) = some (.tup (ds ++ es)) := by unfold dAdd; dsimp only; rw [PySem.sizeLine_eq, if_pos h]
theorem h_ladd (h : ds.length + es.length ≤ 16777216) : lAdd (.lst ds) (.lst es) = some (.lst (ds ++ es)) := by unfold lAdd; dsimp only; rw [PySem.sizeLine_eq, if_pos h]
theorem h_rgI {k : Int} (h : -1000000 < k ∧ k < 1000000000000) : rg1 (.int k) = some (rangeD 0 k.toNat) := by
  exact if_pos (decide_eq_true ⟨by omega, by omega⟩)
theorem h_rg1 (h : n < 1000000000000) : rg1 (.int (n : Nat)) = some (rangeD 0 n) := by
  have e := h_rgI (k := ((n : Nat) : Int)) ⟨by omega, by omega⟩
  rw [Int.toNat_natCast] at e
  exact e
theorem len_ok (h : n ≤ 16777216) : n ≤ sizeLine := by rw [PySem.sizeLine_eq]; exact h
end

/-! equal data, and repr of it -/
theorem toPys_map : ∀ ds : List D, toPys ds = ds.map D.toPy
  | [] => rfl
  | d :: ds => by rw [toPys, toPys_map ds]; rfl
theorem strOk_app {x y : Str} (h1 : PyData.strOk x = true) (h2 : PyData.strOk y = true) : PyData.strOk (x ++ y) = true := by
  have e : (x ++ y).cps = x.cps ++ y.cps := rfl
  unfold PyData.strOk at *
  rw [e, Array.all_append, h1, h2]; rfl
theorem strOk_of (s : String) : PyData.strOk (Str.ofString s) = true := by
  rw [Str.ofString_eq_toList]
  unfold PyData.strOk
  rw [Array.all_eq_true_iff_forall_mem]
  intro c hc
  have hc : c ∈ s.toList.map Char.toNat := by simpa using hc
  obtain ⟨ch, _, rfl⟩ := List.mem_map.mp hc
  have := ch.valid
  have e : ch.toNat = ch.val.toNat := rfl
  rw [decide_eq_true_eq, e]
  rcases this with h | h
  · have h : ch.val.toNat < 0xd800 := h; omega
  · have h : ch.val.toNat < 0x110000 := h.2; exact h
theorem strOk_join {sep : Str} (hs : PyData.strOk sep = true) : ∀ ts : List Str, (∀ t ∈ ts, PyData.strOk t = true) → PyData.strOk (Str.join sep ts) = true
  | [], _ => by show PyData.strOk Str.empty = true; decide +kernel
  | [x], h => h x (List.mem_cons_self ..)
  | x :: y :: r, h => strOk_app (strOk_app (h x (List.mem_cons_self ..)) hs) (strOk_join hs (y :: r) fun t ht => h t (List.mem_cons_of_mem _ ht))
theorem strOk_from : ∀ (ts : List Str) (k : Nat) (acc : Str), PyData.strOk acc = true → (∀ t ∈ ts, PyData.strOk t = true) → PyData.strOk (textFrom k acc ts) = true
  | [], _, _, h, _ => h
  | t :: ts, k, acc, h, hs => by
    unfold textFrom
    refine strOk_from ts (k + 1) _ (strOk_app (strOk_app h ?_) (hs t (List.mem_cons_self ..))) fun u hu => hs u (List.mem_cons_of_mem _ hu)
    exact strOk_of _
theorem shownAll_map : ∀ ds : List PyData, PyData.shownAll ds = ds.map PyData.shown
  | [] => rfl
  | d :: ds => by rw [PyData.shownAll, shownAll_map ds]; rfl
/-- plain data of a depth, a bulk -/
structure Pl (k n : Nat) (d : PyData) : Prop where
  lay : d.canLay0 = true
  dep : d.depth ≤ k
  lv : d.leavesShort 13 = true
  sh : d.showable = true
  bk : d.bulk ≤ n
  ok : PyData.strOk d.shown = true
theorem Pl.mono {k k' n n' : Nat} {d : PyData} (h : Pl k n d) (hk : k ≤ k') (hn : n ≤ n') : Pl k' n' d := ⟨h.lay, Nat.le_trans h.dep hk, h.lv, h.sh, Nat.le_trans h.bk hn, h.ok⟩
theorem Pl.int {i : Int} (h : i.natAbs < 1000000000000) : Pl 0 0 (.int i) where
  lay := rfl
  dep := Nat.le_refl _
  lv := by
    unfold PyData.leavesShort
    exact decide_eq_true (PyData.shown_int_le (by have e : (10 : Nat) ^ 12 = 1000000000000 := by decide
                                                  rw [e]; exact h))
  sh := by
    unfold PyData.showable
    refine decide_eq_true ?_
    have h1 : i.natAbs < 2 ^ 40 := by omega
    by_cases h0 : i.natAbs = 0
    · rw [h0]; decide
    · have := (Nat.log2_lt h0).mpr h1
      omega
  bk := Nat.le_refl _
  ok := strOk_of _
theorem Pl.nat {n : Nat} (h : n < 1000000000000) : Pl 0 0 (.int (n : Nat)) := Pl.int (by omega)
theorem Pl.bl {b : Bool} : Pl 0 0 (.bool b) := by cases b <;> exact ⟨rfl, by decide, rfl, rfl, by decide, strOk_of _⟩
theorem Pl.non : Pl 0 0 .none := ⟨rfl, by decide, rfl, rfl, by decide, strOk_of _⟩
theorem Pl.str {x : Str} (h : PyData.strOk x = true) (h2 : PyData.strOk (reprText x) = true) : Pl 0 x.cps.size (.str x) where
  lay := h
  dep := Nat.le_refl _
  lv := by
    unfold PyData.leavesShort
    rw [List.all_eq_true]
    intro c hc
    unfold PyData.strOk at h
    have := (Array.all_eq_true_iff_forall_mem.mp h) c (Array.mem_toList_iff.mp hc)
    have := of_decide_eq_true this
    exact decide_eq_true (by omega)
  sh := rfl
  bk := Nat.le_refl _
  ok := h2
theorem Pl.alls {k n : Nat} : ∀ {ds : List PyData}, (∀ d ∈ ds, Pl k n d) → PyData.canLayAll0 ds = true ∧ PyData.depthAll ds ≤ k ∧ PyData.leavesShortAll 13 ds = true ∧ PyData.showableAll ds = true ∧ PyData.bulkAll ds ≤ ds.length * (n + 1)
  | [], _ => ⟨rfl, Nat.zero_le _, rfl, rfl, Nat.zero_le _⟩
  | d :: ds, h => by
    have h1 := h d (List.mem_cons_self ..)
    obtain ⟨a, b, c, e, f⟩ := Pl.alls fun d hd => h d (List.mem_cons_of_mem _ hd)
    refine ⟨?_, ?_, ?_, ?_, ?_⟩
    · rw [PyData.canLayAll0, h1.lay, a]; rfl
    · rw [PyData.depthAll]; exact Nat.max_le.mpr ⟨h1.dep, b⟩
    · rw [PyData.leavesShortAll, h1.lv, c]; rfl
    · rw [PyData.showableAll, h1.sh, e]; rfl
    · rw [PyData.bulkAll, List.length_cons, Nat.succ_mul]
      have := h1.bk
      omega
theorem Pl.tup {k n : Nat} {ds : List D} (h : ∀ d ∈ ds, Pl k n d.toPy) : Pl (k + 1) (ds.length * (n + 1)) (D.tup ds).toPy := by
  have h' : ∀ d ∈ ds.map D.toPy, Pl k n d := fun d hd => by
    obtain ⟨e, he, rfl⟩ := List.mem_map.mp hd
    exact h e he
  obtain ⟨a, b, c, e, f⟩ := Pl.alls h'
  rw [List.length_map] at f
  rw [D.toPy, toPys_map]
  refine ⟨a, ?_, c, e, f, ?_⟩
  · rw [PyData.depth]; omega
  · rw [PyData.shown, shownAll_map]
    unfold tupleText
    refine strOk_app (strOk_app (strOk_of _) (strOk_join (strOk_of _) _ fun t ht => ?_)) ?_
    · obtain ⟨d, hd, rfl⟩ := List.mem_map.mp ht
      exact (h' d hd).ok
    · split <;> exact strOk_of _
theorem Pl.lst {k n : Nat} {ds : List D} (h : ∀ d ∈ ds, Pl k n d.toPy) : Pl (k + 1) (ds.length * (n + 1)) (D.lst ds).toPy := by
  have h' : ∀ d ∈ ds.map D.toPy, Pl k n d := fun d hd => by
    obtain ⟨e, he, rfl⟩ := List.mem_map.mp hd
    exact h e he
  obtain ⟨a, b, c, e, f⟩ := Pl.alls h'
  rw [List.length_map] at f
  rw [D.toPy, toPys_map]
  refine ⟨a, ?_, c, e, f, ?_⟩
  · rw [PyData.depth]; omega
  · rw [PyData.shown, shownAll_map]
    unfold listText
    refine strOk_app (strOk_from _ _ _ (strOk_of _) fun t ht => ?_) (strOk_of _)
    obtain ⟨d, hd, rfl⟩ := List.mem_map.mp ht
    exact (h' d hd).ok
section
variable {k n : Nat} {d : D} (h : Pl k n d.toPy) (hk : k ≤ 64)
include h hk
theorem Pl.shaped : SeqAt.shaped d.toPy = true := by
  unfold SeqAt.shaped
  rw [h.lay, decide_eq_true (Nat.le_trans h.dep hk)]; rfl
theorem Pl.eq : dEq d d = some (.bl true) := by
  unfold dEq dEqv
  rw [h.shaped hk, PySem.SeqAt.eqv_refl _ h.lay]; rfl
theorem Pl.ne : dNe d d = some (.bl false) := by
  unfold dNe dEqv
  rw [h.shaped hk, PySem.SeqAt.eqv_refl _ h.lay]; rfl
theorem Pl.repr (hn : n ≤ 1048576) : bRepr [d] = some (.str d.toPy.shown) := by
  refine if_pos ?_
  unfold shownOk
  rw [h.shaped hk, h.sh, decide_eq_true (PyData.shown_fits_bulk (B := 13) (by decide) (by decide) h.lv (Nat.le_trans h.bk (by rw [show (2 : Nat) ^ 20 = 1048576 by decide]; exact hn)))]
  rfl
omit hk in
theorem Pl.eqS : dEq (.str d.toPy.shown) (.str d.toPy.shown) = some (.bl true) := by
  unfold dEq dEqv
  have := h.ok
  simp [D.toPy, SeqAt.shaped, PyData.canLay0, PyData.depth, PyData.eqv, this]
omit hk in
theorem Pl.neS : dNe (.str d.toPy.shown) (.str d.toPy.shown) = some (.bl false) := by
  unfold dNe dEqv
  have := h.ok
  simp [D.toPy, SeqAt.shaped, PyData.canLay0, PyData.depth, PyData.eqv, this]
end
theorem Pl.row {r : List Nat} (h : ∀ p ∈ r, p < 1000000000000) : Pl 1 r.length (rowD r).toPy := by
  have := Pl.tup (k := 0) (n := 0) (ds := natsD r) fun d hd => by
    obtain ⟨n, hn, rfl⟩ := List.mem_map.mp hd
    exact Pl.nat (h n hn)
  rw [List.length_map, Nat.zero_add, Nat.mul_one] at this
  exact this
/-- repr(e1) != repr(e2) of the same data -/
theorem x_neS {k n : Nat} {e1 e2 : EX D} {Γ : Ev} {w w' w'' : Wd} {a : D} (h1 : e1 Γ w = .ok a w') (h2 : e2 Γ w' = .ok a w'') (hp : Pl k n a.toPy) (hk : k ≤ 64) (hn : n ≤ 1048576) : eBl (eOp dNe (eCl bRepr (eCons e1 eNil)) (eCl bRepr (eCons e2 eNil))) Γ w = .ok false w'' :=
  x_bl (x_op (x_cl (x_cons h1 x_nil) (hp.repr hk hn)) (x_cl (x_cons h2 x_nil) (hp.repr hk hn)) hp.neS)
theorem x_eqS {k n : Nat} {e1 e2 : EX D} {Γ : Ev} {w w' w'' : Wd} {a : D} (h1 : e1 Γ w = .ok a w') (h2 : e2 Γ w' = .ok a w'') (hp : Pl k n a.toPy) (hk : k ≤ 64) (hn : n ≤ 1048576) : eBl (eOp dEq (eCl bRepr (eCons e1 eNil)) (eCl bRepr (eCons e2 eNil))) Γ w = .ok true w'' :=
  x_bl (x_op (x_cl (x_cons h1 x_nil) (hp.repr hk hn)) (x_cl (x_cons h2 x_nil) (hp.repr hk hn)) hp.eqS)
/-! loops -/
theorem for_nx {α : Type} {tg : FT} {b : SX} (enc : α → D) (P : List α → Ev → Wd → Prop) : ∀ (xs ys : List α) (Γ : Ev) (w : Wd), P ys Γ w → (∀ (x : α) (zs : List α) Γ w, x ∈ xs → P zs Γ w → ∃ Γ1 Γ2 w2, tg (enc x) Γ = some Γ1 ∧ b Γ1 w = .nx Γ2 w2 ∧ P (zs ++ [x]) Γ2 w2) → ∃ Γ' w', sForL tg b (xs.map enc) Γ w = .nx Γ' w' ∧ P (ys ++ xs) Γ' w'
  | [], ys, Γ, w, h, _ => ⟨Γ, w, rfl, by rw [List.append_nil]; exact h⟩
  | x :: xs, ys, Γ, w, h, hb => by
    obtain ⟨Γ1, Γ2, w2, e1, e2, h2⟩ := hb x ys Γ w (List.mem_cons_self ..) h
    obtain ⟨Γ', w', e3, h3⟩ := for_nx enc P xs (ys ++ [x]) Γ2 w2 h2 fun x zs Γ w hx => hb x zs Γ w (List.mem_cons_of_mem _ hx)
    refine ⟨Γ', w', ?_, by rw [List.append_assoc] at h3; exact h3⟩
    rw [List.map_cons]
    unfold sForL
    rw [e1]
    dsimp only
    rw [e2]
    exact e3
/-- a loop that folds -/
theorem for_fold {α σ : Type} {tg : FT} {b : SX} {w : Wd} (enc : α → D) (stp : σ → α → σ) (P : σ → Ev → Prop) : ∀ (xs : List α) (s : σ) (Γ : Ev), P s Γ → (∀ (x : α) (s : σ) Γ, x ∈ xs → P s Γ → ∃ Γ1 Γ2, tg (enc x) Γ = some Γ1 ∧ b Γ1 w = .nx Γ2 w ∧ P (stp s x) Γ2) → ∃ Γ', sForL tg b (xs.map enc) Γ w = .nx Γ' w ∧ P (xs.foldl stp s) Γ'
  | [], s, Γ, h, _ => ⟨Γ, rfl, h⟩
  | x :: xs, s, Γ, h, hb => by
    obtain ⟨Γ1, Γ2, e1, e2, h2⟩ := hb x s Γ (List.mem_cons_self ..) h
    obtain ⟨Γ', e3, h3⟩ := for_fold enc stp P xs (stp s x) Γ2 h2 fun x s Γ hx => hb x s Γ (List.mem_cons_of_mem _ hx)
    refine ⟨Γ', ?_, h3⟩
    rw [List.map_cons]
    unfold sForL
    rw [e1]
    dsimp only
    rw [e2]
    exact e3
end DL
local macro_rules | `(tactic| bv_omega) => `(tactic| repeat' (first
  | (show @Eq _ _ _; first
    | with_reducible assumption
    | with_reducible exact DL.x_pure
    | with_reducible exact DL.x_nil
    | ((with_reducible apply DL.x_vF); exact rfl)
    | ((with_reducible apply DL.x_vP); exact rfl)
    | ((with_reducible apply DL.x_vPo); exact rfl)
    | ((with_reducible apply DL.x_and_t); (with_reducible assumption))
    | ((with_reducible apply DL.x_and_f); (with_reducible assumption))
    | ((with_reducible apply DL.x_or_t); (with_reducible assumption))
    | ((with_reducible apply DL.x_or_f); (with_reducible assumption))
    | ((with_reducible apply DL.x_if_t); (with_reducible assumption))
    | ((with_reducible apply DL.x_if_f); (with_reducible assumption))
    | ((with_reducible apply DL.s_if_t); (with_reducible assumption))
    | ((with_reducible apply DL.s_if_f); (with_reducible assumption))
    | with_reducible apply DL.x_op
    | with_reducible apply DL.x_un
    | with_reducible apply DL.x_bl
    | with_reducible apply DL.x_tru
    | with_reducible apply DL.x_d
    | with_reducible apply DL.x_not
    | with_reducible apply DL.x_chain
    | with_reducible apply DL.x_call
    | with_reducible apply DL.x_cl
    | with_reducible apply DL.x_cons
    | with_reducible apply DL.x_app
    | with_reducible apply DL.x_seq
    | with_reducible apply DL.x_itv
    | with_reducible apply DL.x_tup
    | with_reducible apply DL.x_lst
    | with_reducible apply DL.x_ix
    | with_reducible apply DL.x_opt
    | with_reducible apply DL.x_sl
    | with_reducible apply DL.x_rg1
    | with_reducible apply DL.x_rg2
    | with_reducible apply DL.x_in
    | with_reducible apply DL.x_notin
    | with_reducible apply DL.x_sortR
    | with_reducible apply DL.x_fz
    | with_reducible apply DL.x_ow
    | with_reducible apply DL.x_r1
    | with_reducible apply DL.x_r2
    | with_reducible apply DL.x_lrg
    | with_reducible apply DL.x_trg
    | with_reducible apply DL.s_seq
    | with_reducible apply DL.s_set
    | with_reducible apply DL.s_setN
    | with_reducible apply DL.s_par
    | with_reducible apply DL.s_par3
    | with_reducible apply DL.s_ret
    | with_reducible apply DL.s_drop
    | with_reducible apply DL.s_frz
    | with_reducible apply DL.s_chg
    | with_reducible apply DL.s_tgt
    | with_reducible apply DL.s_augN
    | with_reducible exact DL.s_nil
    | with_reducible exact DL.h_add
    | with_reducible exact DL.h_iadd
    | with_reducible exact DL.h_sub
    | with_reducible exact DL.h_neg
    | with_reducible exact DL.h_lt
    | with_reducible exact DL.h_gt
    | with_reducible exact DL.h_le
    | with_reducible exact DL.h_ge
    | with_reducible exact DL.h_eq
    | with_reducible exact DL.h_ne
    | with_reducible exact DL.h_truI
    | with_reducible exact DL.h_truB
    | with_reducible exact DL.h_seqT
    | with_reducible exact DL.h_seqL
    | with_reducible exact DL.h_seqR
    | with_reducible exact DL.h_itT
    | with_reducible exact DL.h_itL
    | with_reducible exact DL.h_lenR
    | with_reducible exact DL.h_lenT
    | with_reducible exact DL.h_lenL
    | with_reducible exact DL.h_tupL
    | with_reducible exact DL.h_rev
    | with_reducible exact DL.h_bintI
    | with_reducible exact DL.h_bintB
    | with_reducible exact DL.h_abs
    | with_reducible apply DL.h_app
    | with_reducible apply DL.h_ext
    | with_reducible apply DL.h_tadd
    | with_reducible apply DL.h_ladd
    | (show List.set _ _ _ = _; first | (dsimp only [List.set]; exact rfl) | (dsimp only [List.set]) | exact rfl)
    | (show DL.frzAt _ _ = _; exact rfl)
    | (show GetElem?.getElem? _ _ = some (DL.Sl.own _); exact rfl))
  | with_reducible apply DL.len_ok
  | ((show _ ≤ (16777216 : Nat)); first | omega | (simp only [List.length_append, List.length_map, List.length_cons, List.length_nil, List.length_reverse] <;> omega))
  | ((show _ < (16777216 : Nat)); first | omega | (simp only [List.length_append, List.length_map, List.length_cons, List.length_nil, List.length_reverse] <;> omega))))

set_option Elab.async false
set_option linter.all false
set_option maxRecDepth 100000
set_option maxHeartbeats 4000000
/-! more rules: loops that may return, enumerations, slices -/
namespace DL
open PySem
theorem for_ix {α : Type} {tg : FT} {b : SX} (enc : α → D) (P : List α → Ev → Wd → Prop) (all : List α) : ∀ (xs ys : List α) (Γ : Ev) (w : Wd), ys ++ xs = all → P ys Γ w → (∀ (zs : List α) (x : α) (rest : List α) Γ w, zs ++ x :: rest = all → P zs Γ w → ∃ Γ1 Γ2 w2, tg (enc x) Γ = some Γ1 ∧ b Γ1 w = .nx Γ2 w2 ∧ P (zs ++ [x]) Γ2 w2) → ∃ Γ' w', sForL tg b (xs.map enc) Γ w = .nx Γ' w' ∧ P all Γ' w'
  | [], ys, Γ, w, e, h, _ => ⟨Γ, w, rfl, by rw [List.append_nil] at e; rw [← e]; exact h⟩
  | x :: xs, ys, Γ, w, e, h, hb => by
    obtain ⟨Γ1, Γ2, w2, e1, e2, h2⟩ := hb ys x xs Γ w e h
    obtain ⟨Γ', w', e3, h3⟩ := for_ix enc P all xs (ys ++ [x]) Γ2 w2 (by rw [List.append_assoc]; exact e) h2 hb
    refine ⟨Γ', w', ?_, h3⟩
    rw [List.map_cons]
    unfold sForL
    rw [e1]
    dsimp only
    rw [e2]
    exact e3
/-- a loop that looks at each and may return -/
theorem for_all {α : Type} {tg : FT} {b : SX} {w : Wd} {d : D} (enc : α → D) (pp : α → Bool) (P : Ev → Prop) : ∀ (xs : List α) (Γ : Ev), P Γ → (∀ x ∈ xs, ∀ Γ, P Γ → ∃ Γ1, tg (enc x) Γ = some Γ1 ∧ (pp x = true → ∃ Γ2, b Γ1 w = .nx Γ2 w ∧ P Γ2) ∧ (pp x = false → b Γ1 w = .ret d w)) →
    (xs.all pp = true → ∃ Γ', sForL tg b (xs.map enc) Γ w = .nx Γ' w ∧ P Γ') ∧ (xs.all pp = false → sForL tg b (xs.map enc) Γ w = .ret d w)
  | [], Γ, h, _ => ⟨fun _ => ⟨Γ, rfl, h⟩, fun h => by simp at h⟩
  | x :: xs, Γ, h, hb => by
    obtain ⟨Γ1, e1, ht, hf⟩ := hb x (List.mem_cons_self ..) Γ h
    cases hp : pp x with
    | true =>
      obtain ⟨Γ2, e2, h2⟩ := ht hp
      obtain ⟨i1, i2⟩ := for_all enc pp P xs Γ2 h2 fun y hy => hb y (List.mem_cons_of_mem _ hy)
      have e : sForL tg b ((x :: xs).map enc) Γ w = sForL tg b (xs.map enc) Γ2 w := by
        rw [List.map_cons]
        conv => lhs; unfold sForL
        rw [e1]
        dsimp only
        rw [e2]; rfl
      rw [e, List.all_cons, hp, Bool.true_and]
      exact ⟨i1, i2⟩
    | false =>
      rw [List.all_cons, hp, Bool.false_and]
      refine ⟨(fun h => by cases h), fun _ => ?_⟩
      rw [List.map_cons]
      unfold sForL
      rw [e1]
      dsimp only
      rw [hf hp]; rfl
theorem h_subN {a b : Nat} (h : b ≤ a) : dSub (.int (a : Nat)) (.int (b : Nat)) = some (.int ((a - b : Nat) : Nat)) := by
  rw [h_sub, Int.ofNat_sub h]
theorem h_addN {a b : Nat} : dAdd (.int (a : Nat)) (.int (b : Nat)) = some (.int ((a + b : Nat) : Nat)) := rfl
theorem h_add1 {a : Nat} : dAdd (.int (a : Nat)) (.int 1) = some (.int ((a + 1 : Nat) : Nat)) := rfl
theorem h_sub1 {a : Nat} (h : 1 ≤ a) : dSub (.int (a : Nat)) (.int 1) = some (.int ((a - 1 : Nat) : Nat)) := h_subN (b := 1) h
theorem rangeD0 (n : Nat) : rangeD 0 n = (List.range n).map fun i => D.int (i : Nat) := by
  unfold rangeD
  simp
theorem enum_nats (r : List Nat) : enumD (natsD r) = r.zipIdx.map fun p => D.ftp [.int (p.2 : Nat), .int (p.1 : Nat)] := by
  unfold enumD natsD
  rw [List.mapIdx_eq_zipIdx_map, List.zipIdx_map, List.map_map]
  rfl
theorem zipIdx_at {α : Type} {r : List α} {zs rest : List (α × Nat)} {x : α × Nat} (h : zs ++ x :: rest = r.zipIdx) : x.2 = zs.length ∧ r[zs.length]? = some x.1 := by
  have e : (zs ++ x :: rest)[zs.length]? = some x := by
    rw [List.getElem?_append_right (Nat.le_refl _), Nat.sub_self]; rfl
  rw [h, List.getElem?_zipIdx] at e
  cases z : r[zs.length]? with
  | none => rw [z] at e; cases e
  | some y =>
    rw [z] at e
    simp only [Option.map_some, Option.some.injEq] at e
    rw [← e]
    simp
theorem zipIdx_fst {α : Type} (r : List α) : r.zipIdx.map Prod.fst = r := by
  rw [List.zipIdx_map_fst]
theorem h_ixT {w : Wd} {ds : List D} {i : Nat} {d : D} (h : ds[i]? = some d) : dIx w (.tup ds) (.int (i : Nat)) = some d := by
  show L2.atI ds (i : Nat) = _
  have hl : i < ds.length := (List.getElem?_eq_some_iff.mp h).1
  unfold L2.atI L2.ixN
  rw [if_pos (by omega), if_pos (by omega)]
  show ds[i]? = _
  exact h
theorem h_ixL {w : Wd} {ds : List D} {i : Nat} {d : D} (h : ds[i]? = some d) : dIx w (.lst ds) (.int (i : Nat)) = some d := by
  show L2.atI ds (i : Nat) = _
  have hl : i < ds.length := (List.getElem?_eq_some_iff.mp h).1
  unfold L2.atI L2.ixN
  rw [if_pos (by omega), if_pos (by omega)]
  show ds[i]? = _
  exact h
theorem h_ixR {w : Wd} {r : List Nat} {i p : Nat} (h : r[i]? = some p) : dIx w (rowD r) (.int (i : Nat)) = some (.int (p : Nat)) :=
  h_ixT (by rw [List.getElem?_map, h]; rfl)
theorem h_slT (ds : List D) (i : Nat) : dSl (.tup ds) (some (i : Nat)) none = some (.tup (ds.drop i)) := by
  unfold dSl dSlT cutD
  dsimp only
  rw [HT.sIx_none, HT.sIx_nat]
  have : ds.drop (min i ds.length) = ds.drop i := by
    by_cases h : i ≤ ds.length
    · rw [Nat.min_eq_left h]
    · rw [Nat.min_eq_right (by omega), List.drop_eq_nil_of_le (Nat.le_refl _), List.drop_eq_nil_of_le (by omega)]
  rw [this, List.take_of_length_le (by rw [List.length_drop]; omega)]
  rfl
theorem all_of {α : Type} (f : α → Bool) (xs : List α) : bAll [.lst (xs.map fun x => D.bl (f x))] = some (.bl (xs.all f)) := by
  unfold bAll lsD
  dsimp only
  have : ∀ xs : List α, blsD (xs.map fun x => D.bl (f x)) = some (xs.map f) := by
    intro xs
    induction xs with
    | nil => rfl
    | cons a xs ih => show (blsD (xs.map fun x => D.bl (f x))).map (f a :: ·) = _; rw [ih]; rfl
  simp only [Option.bind_some]
  rw [this]
  have : (xs.map f).all id = xs.all f := by rw [List.all_map]; rfl
  simp only [Option.map_some]
  congr 1
  simp [List.all_map]
theorem zip_drop_range {α : Type} (m : List α) (j : Nat) (z : α) : m.zip (m.drop j) = (List.range (m.length - j)).map fun i => (m.getD i z, m.getD (i + j) z) := by
  apply List.ext_getElem
  · rw [List.length_zip, List.length_drop, List.length_map, List.length_range]; omega
  · intro i h1 h2
    rw [List.length_zip, List.length_drop] at h1
    rw [List.getElem_zip, List.getElem_map, List.getElem_range, List.getElem_drop]
    rw [List.getD_eq_getElem?_getD, List.getD_eq_getElem?_getD, List.getElem?_eq_getElem (by omega), List.getElem?_eq_getElem (by omega)]
    simp [Nat.add_comm]
theorem dEq_nil {k n : Nat} {ds : List D} (h : Pl k n (D.lst ds).toPy) (hk : k ≤ 64) : dEq (.lst ds) (.lst []) = some (.bl ds.isEmpty) := by
  unfold dEq dEqv
  rw [h.shaped hk]
  have : SeqAt.shaped (D.lst []).toPy = true := rfl
  rw [this]
  cases ds with
  | nil => rfl
  | cons d ds => rfl
end DL

set_option Elab.async false
set_option maxRecDepth 100000
set_option maxHeartbeats 4000000
namespace LW
open PySem PySem.Spec PyProof.Rows L2 DL
set_option linter.all false
def top (i : Nat) : Stmt := PySem.Challenge.pw_hookwide_k83_whole_steps_and_rows_ahead.main.body.getD i (.Pass ⟨0, 0, 0, 0⟩)
abbrev s_is_whole : Stmt := top 6
abbrev s_is_near : Stmt := top 7
abbrev s_is_within : Stmt := top 8
abbrev s_require_number : Stmt := top 9
abbrev s_is_falling : Stmt := top 12
abbrev s_is_part_row : Stmt := top 13
abbrev s_is_row_in : Stmt := top 14
abbrev s_rows_by : Stmt := top 15
abbrev s_require_row : Stmt := top 16
abbrev s_stepped_in : Stmt := top 19
abbrev s_row_ahead : Stmt := top 20
abbrev s_ahead_in : Stmt := top 21
abbrev s_is_begun_in : Stmt := top 22
abbrev s_run_in : Stmt := top 23
abbrev s_require_size : Stmt := top 24
abbrev s_stepped : Stmt := top 25
abbrev s_stepped_often : Stmt := top 26
abbrev s_ahead_of : Stmt := top 27
abbrev s_is_begun : Stmt := top 28
abbrev s_run_of : Stmt := top 29
abbrev s_begun_rows : Stmt := top 30
abbrev s_count_begun : Stmt := top 31
abbrev s__law_dice : Stmt := top 33
abbrev s__law_roll : Stmt := top 34
abbrev s__law_pick : Stmt := top 35
abbrev s__law_ascending : Stmt := top 36
abbrev s__law_is_integer : Stmt := top 37
abbrev s__law_rows : Stmt := top 38
abbrev s__law_is_row : Stmt := top 39
abbrev s__law_row : Stmt := top 40
abbrev s__law_boxes : Stmt := top 41
abbrev s__law_step : Stmt := top 42
abbrev s__law_weight : Stmt := top 43
abbrev s__law_right : Stmt := top 44
abbrev s__law_all_right : Stmt := top 45
abbrev s_law : Stmt := top 46
theorem bt_abs : bootBuiltins ("abs" : Str) = some (.builtin "abs") := by kernel_rfl
theorem bt_all : bootBuiltins ("all" : Str) = some (.builtin "all") := by kernel_rfl
theorem bt_bool : bootBuiltins ("bool" : Str) = some (.type "bool") := by kernel_rfl
theorem bt_dict : bootBuiltins ("dict" : Str) = some (.type "dict") := by kernel_rfl
theorem bt_enumerate : bootBuiltins ("enumerate" : Str) = some (.type "enumerate") := by kernel_rfl
theorem bt_int : bootBuiltins ("int" : Str) = some (.type "int") := by kernel_rfl
theorem bt_isinstance : bootBuiltins ("isinstance" : Str) = some (.builtin "isinstance") := by kernel_rfl
theorem bt_len : bootBuiltins ("len" : Str) = some (.builtin "len") := by kernel_rfl
theorem bt_max : bootBuiltins ("max" : Str) = some (.builtin "max") := by kernel_rfl
theorem bt_min : bootBuiltins ("min" : Str) = some (.builtin "min") := by kernel_rfl
theorem bt_range : bootBuiltins ("range" : Str) = some (.type "range") := by kernel_rfl
theorem bt_repr : bootBuiltins ("repr" : Str) = some (.builtin "repr") := by kernel_rfl
theorem bt_sorted : bootBuiltins ("sorted" : Str) = some (.builtin "sorted") := by kernel_rfl
theorem bt_sum : bootBuiltins ("sum" : Str) = some (.builtin "sum") := by kernel_rfl
theorem bt_tuple : bootBuiltins ("tuple" : Str) = some (.type "tuple") := by kernel_rfl
theorem bt_zip : bootBuiltins ("zip" : Str) = some (.type "zip") := by kernel_rfl
/-- what the module names -/
structure Blt (mg : Str → Option Value) : Prop where
  b_abs : mg "abs" = none
  b_all : mg "all" = none
  b_bool : mg "bool" = none
  b_dict : mg "dict" = none
  b_enumerate : mg "enumerate" = none
  b_int : mg "int" = none
  b_isinstance : mg "isinstance" = none
  b_len : mg "len" = none
  b_max : mg "max" = none
  b_min : mg "min" = none
  b_range : mg "range" = none
  b_repr : mg "repr" = none
  b_sorted : mg "sorted" = none
  b_sum : mg "sum" = none
  b_tuple : mg "tuple" = none
  b_zip : mg "zip" = none
  c_FAR : ∃ t, mg "FAR" = some (.int 1000000000000000000000000000000000000000000000000000000000000 t)
  c_MOST_LISTED : ∃ t, mg "MOST_LISTED" = some (.int 25 t)
  c_MOST_SIZE : ∃ t, mg "MOST_SIZE" = some (.int 200 t)

/-! ### is_whole -/
def g_is_whole : SX := (sRet (eD (eAnd (eIsi "int" (vP 0)) (eNotB (eIsi "bool" (vP 0))))))
def F_is_whole : Fn := defOf 1 g_is_whole
theorem sc_is_whole : FnScope ["value"] ["value"] (defScope s_is_whole) := ⟨rfl, rfl, rfl, by decide +kernel, rfl, by decide +kernel, by decide +kernel⟩
theorem ok_is_whole {P : Program} {w : World} {K : PySem.W.Frag} {mg : Str → Option Value} {base : Heap} (B : Blt mg) (h : Has K mg "is_whole" "is_whole" s_is_whole)  : Kp P w K mg base 1 "is_whole" 1 F_is_whole := by
  have nd := sc_is_whole.nd
  exact kp_def h sc_is_whole rfl rfl (by decide) (fun _ _ _ _ _ _ us hl => match us, hl with | [_], _ => rfl) fun _ _ _ _ _ _ _ _ hgd hr tk =>
    dss_one (ds_ret (DB.df (db_and (db_isi bt_int (by decide) rfl B.b_isinstance rfl B.b_int (dp_var (pv 0))) (db_one (db_not (db_isi bt_bool (by decide) rfl B.b_isinstance rfl B.b_bool (dp_var (pv 0))))))))

/-! ### is_near -/
def g_is_near : SX := (sRet (eD (eAnd (eBl (eCall F_is_whole (eCons (vF 0) eNil))) (eChain oLt oLt (eUn dNeg (ePure (.int 1000000000000000000000000000000000000000000000000000000000000))) (vP 0) (ePure (.int 1000000000000000000000000000000000000000000000000000000000000))))))
def F_is_near : Fn := defOf 1 g_is_near
theorem sc_is_near : FnScope ["value"] ["value"] (defScope s_is_near) := ⟨rfl, rfl, rfl, by decide +kernel, rfl, by decide +kernel, by decide +kernel⟩
theorem ok_is_near {P : Program} {w : World} {K : PySem.W.Frag} {mg : Str → Option Value} {base : Heap} (B : Blt mg) (h : Has K mg "is_near" "is_near" s_is_near) (h_is_whole : Kp P w K mg base 1 "is_whole" 1 F_is_whole) : Kp P w K mg base 2 "is_near" 1 F_is_near := by
  have nd := sc_is_near.nd
  exact kp_def h sc_is_near rfl rfl (by decide) (fun _ _ _ _ _ _ us hl => match us, hl with | [_], _ => rfl) fun _ _ _ _ _ _ _ _ hgd hr tk =>
    dss_one (ds_ret (DB.df (db_and (db_of (df_callK h_is_whole (by decide) hgd hr tk rfl (dfs_cons (df_var (pv 0)) dfs_nil) rfl (len_cons len_nil))) (db_one (db_chain (dop_olt (ru64 hr)) (dop_olt (ru64 hr)) (DF.p (df_neg (DF.p (df_gint rfl B.c_FAR)))) (dp_var (pv 0)) (DF.p (df_gint rfl B.c_FAR)))))))

/-! ### is_within -/
def g_is_within : SX := (sRet (eD (eAnd (eBl (eCall F_is_whole (eCons (vF 0) eNil))) (eChain oLe oLe (vP 1) (vP 0) (vP 2)))))
def F_is_within : Fn := defOf 3 g_is_within
theorem sc_is_within : FnScope ["value", "least", "most"] ["value", "least", "most"] (defScope s_is_within) := ⟨rfl, rfl, rfl, by decide +kernel, rfl, by decide +kernel, by decide +kernel⟩
theorem ok_is_within {P : Program} {w : World} {K : PySem.W.Frag} {mg : Str → Option Value} {base : Heap} (B : Blt mg) (h : Has K mg "is_within" "is_within" s_is_within) (h_is_whole : Kp P w K mg base 1 "is_whole" 1 F_is_whole) : Kp P w K mg base 2 "is_within" 3 F_is_within := by
  have nd := sc_is_within.nd
  exact kp_def h sc_is_within rfl rfl (by decide) (fun _ _ _ _ _ _ us hl => match us, hl with | [_, _, _], _ => rfl) fun _ _ _ _ _ _ _ _ hgd hr tk =>
    dss_one (ds_ret (DB.df (db_and (db_of (df_callK h_is_whole (by decide) hgd hr tk rfl (dfs_cons (df_var (pv 0)) dfs_nil) rfl (len_cons len_nil))) (db_one (db_chain (dop_ole (ru64 hr)) (dop_ole (ru64 hr)) (dp_var (pv 1)) (dp_var (pv 0)) (dp_var (pv 2)))))))

/-! ### require_number -/
def g_require_number : SX := (sIf (eOr (eNotB (eTru (eCall F_is_near (eCons (vF 0) eNil)))) (eOr (eAnd (eBl (eOp dIsNot (vP 1) (ePure .non))) (eBl (eOp oLt (vP 0) (vP 1)))) (eAnd (eBl (eOp dIsNot (vP 2) (ePure .non))) (eBl (eOp oGt (vP 0) (vP 2)))))) sStuck sNil)
def F_require_number : Fn := defOf 3 g_require_number
theorem sc_require_number : FnScope ["value", "least", "most"] ["value", "least", "most"] (defScope s_require_number) := ⟨rfl, rfl, rfl, by decide +kernel, rfl, by decide +kernel, by decide +kernel⟩
theorem ok_require_number {P : Program} {w : World} {K : PySem.W.Frag} {mg : Str → Option Value} {base : Heap} (B : Blt mg) (h : Has K mg "require_number" "require_number" s_require_number) (h_is_near : Kp P w K mg base 2 "is_near" 1 F_is_near) : Kp P w K mg base 3 "require_number" 3 F_require_number := by
  have nd := sc_require_number.nd
  exact kp_def h sc_require_number rfl rfl (by decide) (fun _ _ _ _ _ _ us hl => match us, hl with | [_, _, _], _ => rfl) fun _ _ _ _ _ _ _ _ hgd hr tk =>
    dss_one (ds_if (DW.t (dw_or (dt_not (dt_tru (DF.p (df_callK h_is_near (by decide) hgd hr tk rfl (dfs_cons (df_var (pv 0)) dfs_nil) rfl (len_cons len_nil))))) (dw_or (DW.t (dw_and (dt_cmp dop_isNot (dp_var (pv 1)) (DF.p df_non) nb) (dw_and1 (dt_cmp (dop_olt (ru64 hr)) (dp_var (pv 0)) (dp_var (pv 1)) nb)))) (dw_or1 (DW.t (dw_and (dt_cmp dop_isNot (dp_var (pv 2)) (DF.p df_non) nb) (dw_and1 (dt_cmp (dop_ogt (ru64 hr)) (dp_var (pv 0)) (dp_var (pv 2)) nb))))))))
      (dss_one ds_never)
      (dss_nil))

/-! ### is_falling -/
def g_is_falling : SX := (sRet (eCl bAll (eCons (eComp (eZip (vP 0) (eSl dSl (vP 0) (eOpt (ePure (.int 1))) (ePure none))) [1, 2] (gtTup 2 (gtCons (gtN 1) (gtCons (gtN 2) gtNil))) (ePure true) (eD (eBl (eOp oGe (vP 1) (vP 2))))) eNil)))
def F_is_falling : Fn := defOf 3 g_is_falling
theorem sc_is_falling : FnScope ["value", "one", "other"] ["value"] (defScope s_is_falling) := ⟨rfl, rfl, rfl, by decide +kernel, rfl, by decide +kernel, by decide +kernel⟩
theorem ok_is_falling {P : Program} {w : World} {K : PySem.W.Frag} {mg : Str → Option Value} {base : Heap} (B : Blt mg) (h : Has K mg "is_falling" "is_falling" s_is_falling)  : Kp P w K mg base 1 "is_falling" 1 F_is_falling := by
  have nd := sc_is_falling.nd
  exact kp_def h sc_is_falling rfl rfl (by decide) (fun _ _ _ _ _ _ us hl => match us, hl with | [_], _ => rfl) fun _ _ _ _ _ _ _ _ hgd hr tk =>
    dss_one (ds_ret (df_callB (dcl_all rfl) rfl B.b_all bt_all (dps_cons (DN.p (dn_lc rfl nd (dip_zip rfl B.b_zip (dp_var (pv 0)) (DF.p (df_sl (dp_var (pv 0)) (do_some (DF.p df_int)) do_none))) (own := [("one", 1), ("other", 2)]) (blkOk_by (by kernel_rfl)) (by decide) (fun _ _ _ _ _ => (dg_tup rfl (dgs_cons (d_name nd) (dgs_cons (d_name nd) dgs_nil)))) (fun _ _ _ _ _ => dts_nil) (fun _ _ _ _ _ => (DB.df (db_of (df_cmp (dop_oge (ru64 hr)) (dp_var (pv 1)) (dp_var (pv 2)) nb)))))) dps_nil)))

/-! ### is_part_row -/
def g_is_part_row : SX := (sSeq (sIf (eOr (eNotB (eTru (eD (eIsi "tuple" (vP 0))))) (eNotB (eTru (eCl bAll (eCons (eComp (eSeq (vP 0)) [3] (gtN 3) (ePure true) (eCall F_is_within (eCons (vF 3) (eCons (vF 1) (eCons (vF 2) eNil))))) eNil))))) (sRet (ePure (.bl false))) sNil)
    (sRet (eCall F_is_falling (eCons (vF 0) eNil))))
def F_is_part_row : Fn := defOf 4 g_is_part_row
theorem sc_is_part_row : FnScope ["value", "least", "most", "one"] ["value", "least", "most"] (defScope s_is_part_row) := ⟨rfl, rfl, rfl, by decide +kernel, rfl, by decide +kernel, by decide +kernel⟩
theorem ok_is_part_row {P : Program} {w : World} {K : PySem.W.Frag} {mg : Str → Option Value} {base : Heap} (B : Blt mg) (h : Has K mg "is_part_row" "is_part_row" s_is_part_row) (h_is_within : Kp P w K mg base 2 "is_within" 3 F_is_within) (h_is_falling : Kp P w K mg base 1 "is_falling" 1 F_is_falling) : Kp P w K mg base 3 "is_part_row" 3 F_is_part_row := by
  have nd := sc_is_part_row.nd
  exact kp_def h sc_is_part_row rfl rfl (by decide) (fun _ _ _ _ _ _ us hl => match us, hl with | [_, _, _], _ => rfl) fun _ _ _ _ _ _ _ _ hgd hr tk =>
    dss_cons (ds_if (DW.t (dw_or (dt_not (dt_tru (DF.p (DB.df (db_isi bt_tuple (by decide) rfl B.b_isinstance rfl B.b_tuple (dp_var (pv 0))))))) (dw_or1 (dt_not (dt_tru (DF.p (df_callB (dcl_all rfl) rfl B.b_all bt_all (dps_cons (DN.p (dn_lc rfl nd (dip_val (dp_var (pv 0))) (own := [("one", 3)]) (blkOk_by (by kernel_rfl)) (by decide) (fun _ _ _ _ _ => (d_name nd)) (fun _ _ _ _ _ => dts_nil) (fun _ _ _ _ _ => (df_callK h_is_within (by decide) hgd hr tk_blk rfl (dfs_cons (df_var (pv 3)) (dfs_cons (df_var (pv 1)) (dfs_cons (df_var (pv 2)) dfs_nil))) rfl (len_cons (len_cons (len_cons len_nil))))))) dps_nil))))))))
      (dss_one (ds_ret df_bl))
      (dss_nil))
    (dss_one (ds_ret (df_callK h_is_falling (by decide) hgd hr tk rfl (dfs_cons (df_var (pv 0)) dfs_nil) rfl (len_cons len_nil))))

/-! ### is_row_in -/
def g_is_row_in : SX := (sRet (eD (eAnd (eBl (eCall F_is_part_row (eCons (vF 0) (eCons (ePure (.int 1)) (eCons (ePure (.int 200)) eNil))))) (eBl (eOp oLe (eCl bSum (eCons (vP 0) eNil)) (ePure (.int 200)))))))
def F_is_row_in : Fn := defOf 1 g_is_row_in
theorem sc_is_row_in : FnScope ["value"] ["value"] (defScope s_is_row_in) := ⟨rfl, rfl, rfl, by decide +kernel, rfl, by decide +kernel, by decide +kernel⟩
theorem ok_is_row_in {P : Program} {w : World} {K : PySem.W.Frag} {mg : Str → Option Value} {base : Heap} (B : Blt mg) (h : Has K mg "is_row_in" "is_row_in" s_is_row_in) (h_is_part_row : Kp P w K mg base 3 "is_part_row" 3 F_is_part_row) : Kp P w K mg base 4 "is_row_in" 1 F_is_row_in := by
  have nd := sc_is_row_in.nd
  exact kp_def h sc_is_row_in rfl rfl (by decide) (fun _ _ _ _ _ _ us hl => match us, hl with | [_], _ => rfl) fun _ _ _ _ _ _ _ _ hgd hr tk =>
    dss_one (ds_ret (DB.df (db_and (db_of (df_callK h_is_part_row (by decide) hgd hr tk rfl (dfs_cons (df_var (pv 0)) (dfs_cons df_int (dfs_cons (df_gint rfl B.c_MOST_SIZE) dfs_nil))) rfl (len_cons (len_cons (len_cons len_nil))))) (db_one (db_of (df_cmp (dop_ole (ru64 hr)) (DF.p (df_callB (dcl_sum rfl) rfl B.b_sum bt_sum (dps_cons (dp_var (pv 0)) dps_nil))) (DF.p (df_gint rfl B.c_MOST_SIZE)) nb))))))

/-! ### rows_by -/
def b_rows_by_1 : SX := (sSeq (sSet 7 (eCl bMin (eCons (vP 6) (eCons (eIf (eBl (eOp dNe (vP 5) (eTup eNil))) (eIx (vP 5) (eUn dNeg (ePure (.int 1)))) (vP 1)) eNil))))
    (sSeq (sIf (eBl (eOp dEq (vP 6) (ePure (.int 0)))) (sChgL 4 hApp (eTup (eCons (vF 5) (eCons (ePure (.int 0)) eNil)))) sNil)
    (sChgL 4 hExt (eComp (eRg2 (ePure (.int 1)) (eOp dAdd (vP 7) (ePure (.int 1)))) [8] (gtN 8) (ePure true) (eTup (eCons (eTup (eApp (eSeq (vP 5)) (eCons (vF 8) eNil))) (eCons (eOp dSub (vP 6) (vP 8)) eNil)))))))
def b_rows_by_2 : SX := (sSeq (sSetN 4 (eLst eNil))
    (sSeq (sFor (eItv (vF 2)) (gtTup 2 (gtCons (gtN 5) (gtCons (gtN 6) gtNil))) b_rows_by_1)
    (sFreeze 4 (sSet 2 (vF 4)))))
def g_rows_by : SX := (sSeq (sSet 2 (eLst (eCons (eTup (eCons (eTup eNil) (eCons (vF 0) eNil))) eNil)))
    (sSeq (sFor (eRg1 (vF 0)) (gtN 3) b_rows_by_2)
    (sRet (eCl bSortA (eCons (eComp (eSeq (vP 2)) [5, 6] (gtTup 2 (gtCons (gtN 5) (gtCons (gtN 6) gtNil))) (eBl (eOp dEq (vP 6) (ePure (.int 0)))) (vF 5)) eNil)))))
def F_rows_by : Fn := defOf 9 g_rows_by
theorem sc_rows_by : FnScope ["n", "most", "found", "turn", "later", "row", "left", "top", "part"] ["n", "most"] (defScope s_rows_by) := ⟨rfl, rfl, rfl, by decide +kernel, rfl, by decide +kernel, by decide +kernel⟩
theorem ok_rows_by {P : Program} {w : World} {K : PySem.W.Frag} {mg : Str → Option Value} {base : Heap} (B : Blt mg) (h : Has K mg "rows_by" "rows_by" s_rows_by)  : Kp P w K mg base 1 "rows_by" 2 F_rows_by := by
  have nd := sc_rows_by.nd
  exact kp_def h sc_rows_by rfl rfl (by decide) (fun _ _ _ _ _ _ us hl => match us, hl with | [_, _], _ => rfl) fun _ _ _ _ _ _ _ _ hgd hr tk =>
    dss_cons (d_set nd (DN.f (dn_lst (dfs_cons (df_tup (dfs_cons (df_tup dfs_nil) (dfs_cons (df_var (pv 0)) dfs_nil))) dfs_nil))))
    (dss_cons (ds_for (passes_of rfl) rfl (di_range1 rfl B.b_range (df_var (pv 0))) (d_name nd)
      (dss_cons (d_setN nd (dn_lst dfs_nil))
      (dss_cons (ds_for (passes_of rfl) rfl (di_val (df_var (pv 2))) (dg_tup rfl (dgs_cons (d_name nd) (dgs_cons (d_name nd) dgs_nil)))
        (dss_cons (d_set nd (df_callB (dcl_min rfl (ru1 hr)) rfl B.b_min bt_min (dps_cons (dp_var (pv 6)) (dps_cons (dp_if (dt_cmp (dop_ne (ru64 hr)) (dp_var (pv 5)) (DF.p (df_tup dfs_nil)) nb) (DF.p (df_ix (ru1 hr) (dp_var (pv 5)) (DF.p (df_neg (DF.p df_int))))) (dp_var (pv 1))) dps_nil))))
        (dss_cons (ds_if (dt_cmp (dop_eq (ru64 hr)) (dp_var (pv 6)) (DF.p df_int) nb)
          (dss_one (ds_append (pv 4) (df_tup (dfs_cons (df_var (pv 5)) (dfs_cons df_int dfs_nil)))))
          (dss_nil))
        (dss_one (ds_extend (pv 4) (DN.p (dn_lc rfl nd (DIF.p (di_range2 rfl B.b_range df_int (df_bin dop_add (dp_var (pv 7)) (DF.p df_int)))) (own := [("part", 8)]) (blkOk_by (by kernel_rfl)) (by decide) (fun _ _ _ _ _ => (d_name nd)) (fun _ _ _ _ _ => dts_nil) (fun _ _ _ _ _ => (df_tup (dfs_cons (df_tup (dfs_star (dp_var (pv 5)) (dfs_cons (df_var (pv 8)) dfs_nil))) (dfs_cons (df_bin dop_sub (dp_var (pv 6)) (dp_var (pv 8))) dfs_nil)))))))))))
      (dss_freeze 4 (dss_one (d_set nd (df_var (pv 4))))))))
    (dss_one (ds_ret (DN.f (dn_callB (dcln_sortA rfl (ru hr)) rfl B.b_sorted bt_sorted (dps_cons (DN.p (dn_lc rfl nd (dip_val (dp_var (pv 2))) (own := [("row", 5), ("left", 6)]) (blkOk_by (by kernel_rfl)) (by decide) (fun _ _ _ _ _ => (dg_tup rfl (dgs_cons (d_name nd) (dgs_cons (d_name nd) dgs_nil)))) (fun _ _ _ _ _ => (dts_one (dt_cmp (dop_eq (ru64 hr)) (dp_var (pv 6)) (DF.p df_int) nb))) (fun _ _ _ _ _ => (df_var (pv 5))))) dps_nil))))))

/-! ### require_row -/
def g_require_row : SX := (sIf (eNotB (eTru (eCall F_is_row_in (eCons (vF 0) eNil)))) sStuck sNil)
def F_require_row : Fn := defOf 1 g_require_row
theorem sc_require_row : FnScope ["value"] ["value"] (defScope s_require_row) := ⟨rfl, rfl, rfl, by decide +kernel, rfl, by decide +kernel, by decide +kernel⟩
theorem ok_require_row {P : Program} {w : World} {K : PySem.W.Frag} {mg : Str → Option Value} {base : Heap} (B : Blt mg) (h : Has K mg "require_row" "require_row" s_require_row) (h_is_row_in : Kp P w K mg base 4 "is_row_in" 1 F_is_row_in) : Kp P w K mg base 5 "require_row" 1 F_require_row := by
  have nd := sc_require_row.nd
  exact kp_def h sc_require_row rfl rfl (by decide) (fun _ _ _ _ _ _ us hl => match us, hl with | [_], _ => rfl) fun _ _ _ _ _ _ _ _ hgd hr tk =>
    dss_one (ds_if (dt_not (dt_tru (DF.p (df_callK h_is_row_in (by decide) hgd hr tk rfl (dfs_cons (df_var (pv 0)) dfs_nil) rfl (len_cons len_nil)))))
      (dss_one ds_never)
      (dss_nil))

/-! ### stepped_in -/
def g_stepped_in : SX := (sSeq (sIf (eBl (eOp dEq (vP 0) (eTup eNil))) (sRet (vF 0)) sNil)
    (sSeq (sSetN 1 (eComp (eSeq (vP 0)) [2] (gtN 2) (eBl (eOp oGt (vP 2) (ePure (.int 1)))) (eOp dSub (vP 2) (ePure (.int 1)))))
    (sFreeze 1 (sRet (eCl bTuple (eCons (eSortR (eLst (eApp (eSeq (vP 1)) (eCons (eCl bLenS (eCons (vP 0) eNil)) eNil))) (ePure (.bl true))) eNil))))))
def F_stepped_in : Fn := defOf 3 g_stepped_in
theorem sc_stepped_in : FnScope ["row", "left", "part"] ["row"] (defScope s_stepped_in) := ⟨rfl, rfl, rfl, by decide +kernel, rfl, by decide +kernel, by decide +kernel⟩
theorem ok_stepped_in {P : Program} {w : World} {K : PySem.W.Frag} {mg : Str → Option Value} {base : Heap} (B : Blt mg) (h : Has K mg "stepped_in" "stepped_in" s_stepped_in)  : Kp P w K mg base 1 "stepped_in" 1 F_stepped_in := by
  have nd := sc_stepped_in.nd
  exact kp_def h sc_stepped_in rfl rfl (by decide) (fun _ _ _ _ _ _ us hl => match us, hl with | [_], _ => rfl) fun _ _ _ _ _ _ _ _ hgd hr tk =>
    dss_cons (ds_if (dt_cmp (dop_eq (ru64 hr)) (dp_var (pv 0)) (DF.p (df_tup dfs_nil)) nb)
      (dss_one (ds_ret (df_var (pv 0))))
      (dss_nil))
    (dss_cons (d_setLc nd rfl (sw_true rfl rfl rfl (by decide +kernel)) (dip_val (dp_var (pv 0))) (own := [("part", 2)]) (blkOk_by (by kernel_rfl)) (by decide) (fun _ _ _ _ _ => (d_name nd)) (fun _ _ _ _ _ => (dts_one (dt_cmp (dop_ogt (ru64 hr)) (dp_var (pv 2)) (DF.p df_int) nb))) (fun _ _ _ _ _ => (df_bin dop_sub (dp_var (pv 2)) (DF.p df_int))))
    (dss_freeze 1 (dss_one (ds_ret (df_callTy dcl_tuple rfl B.b_tuple bt_tuple (dps_cons (DN.p (dn_sortR (ru hr) rfl B.b_sorted (DN.p (dn_lst (dfs_star (dp_var (pv 1)) (dfs_cons (df_callB dcl_lenS rfl B.b_len bt_len (dps_cons (dp_var (pv 0)) dps_nil)) dfs_nil)))) (DF.p df_bl))) dps_nil))))))

/-! ### row_ahead -/
def g_row_ahead : SX := (sSeq (sSet 2 (eIndexT (vP 0) (vP 1)))
    (sSeq (sSetN 3 (eComp (eSeq (eTup (eApp (eSeq (eSl dSl (vP 0) (ePure none) (eOpt (vP 2)))) (eApp (eSeq (eSl dSl (vP 0) (eOpt (eOp dAdd (vP 2) (ePure (.int 1)))) (ePure none))) eNil)))) [4] (gtN 4) (ePure true) (eOp dAdd (vP 4) (ePure (.int 1)))))
    (sFreeze 3 (sRet (eCl bTuple (eCons (eOp lAdd (vP 3) (eOp lMul (eLst (eCons (ePure (.int 1)) eNil)) (eOp dSub (vP 1) (eCl bLenS (eCons (vP 3) eNil))))) eNil))))))
def F_row_ahead : Fn := defOf 5 g_row_ahead
theorem sc_row_ahead : FnScope ["row", "part", "at", "grown", "one"] ["row", "part"] (defScope s_row_ahead) := ⟨rfl, rfl, rfl, by decide +kernel, rfl, by decide +kernel, by decide +kernel⟩
theorem ok_row_ahead {P : Program} {w : World} {K : PySem.W.Frag} {mg : Str → Option Value} {base : Heap} (B : Blt mg) (h : Has K mg "row_ahead" "row_ahead" s_row_ahead)  : Kp P w K mg base 1 "row_ahead" 2 F_row_ahead := by
  have nd := sc_row_ahead.nd
  exact kp_def h sc_row_ahead rfl rfl (by decide) (fun _ _ _ _ _ _ us hl => match us, hl with | [_, _], _ => rfl) fun _ _ _ _ _ _ _ _ hgd hr tk =>
    dss_cons (d_set nd (df_indexT (dp_var (pv 0)) (dp_var (pv 1))))
    (dss_cons (d_setLc nd rfl (sw_true rfl rfl rfl (by decide +kernel)) (dip_val (DF.p (df_tup (dfs_star (DF.p (df_sl (dp_var (pv 0)) do_none (do_some (dp_var (pv 2))))) (dfs_star (DF.p (df_sl (dp_var (pv 0)) (do_some (DF.p (df_bin dop_add (dp_var (pv 2)) (DF.p df_int)))) do_none)) dfs_nil))))) (own := [("one", 4)]) (blkOk_by (by kernel_rfl)) (by decide) (fun _ _ _ _ _ => (d_name nd)) (fun _ _ _ _ _ => dts_nil) (fun _ _ _ _ _ => (df_bin dop_add (dp_var (pv 4)) (DF.p df_int))))
    (dss_freeze 3 (dss_one (ds_ret (df_callTy dcl_tuple rfl B.b_tuple bt_tuple (dps_cons (DN.p (dn_bin dopn_lAdd (dp_var (pv 3)) (DN.p (dn_bin dopn_lMul (DN.p (dn_lst (dfs_cons df_int dfs_nil))) (DF.p (df_bin dop_sub (dp_var (pv 1)) (DF.p (df_callB dcl_lenS rfl B.b_len bt_len (dps_cons (dp_var (pv 3)) dps_nil))))))))) dps_nil))))))

/-! ### ahead_in -/
def g_ahead_in : SX := (sSeq (sIf (eBl (eOp dEq (vP 0) (eTup eNil))) (sRet (eLst (eCons (eTup eNil) eNil))) sNil)
    (sSeq (sSetN 1 (eDc (eSeq (vP 0)) [2] (gtN 2) (eBl (eOp oGe (vP 2) (eOp dSub (eCl bLenS (eCons (vP 0) eNil)) (ePure (.int 1))))) (vF 2) (ePure (.bl true))))
    (sFreeze 1 (sRet (eCl bSortA (eCons (eComp (eItv (vF 1)) [2] (gtN 2) (ePure true) (eCall F_row_ahead (eCons (vF 0) (eCons (vF 2) eNil)))) eNil))))))
def F_ahead_in : Fn := defOf 3 g_ahead_in
theorem sc_ahead_in : FnScope ["row", "parts", "part"] ["row"] (defScope s_ahead_in) := ⟨rfl, rfl, rfl, by decide +kernel, rfl, by decide +kernel, by decide +kernel⟩
theorem ok_ahead_in {P : Program} {w : World} {K : PySem.W.Frag} {mg : Str → Option Value} {base : Heap} (B : Blt mg) (h : Has K mg "ahead_in" "ahead_in" s_ahead_in) (h_row_ahead : Kp P w K mg base 1 "row_ahead" 2 F_row_ahead) : Kp P w K mg base 2 "ahead_in" 1 F_ahead_in := by
  have nd := sc_ahead_in.nd
  exact kp_def h sc_ahead_in rfl rfl (by decide) (fun _ _ _ _ _ _ us hl => match us, hl with | [_], _ => rfl) fun _ _ _ _ _ _ _ _ hgd hr tk =>
    dss_cons (ds_if (dt_cmp (dop_eq (ru64 hr)) (dp_var (pv 0)) (DF.p (df_tup dfs_nil)) nb)
      (dss_one (ds_ret (DN.f (dn_lst (dfs_cons (df_tup dfs_nil) dfs_nil)))))
      (dss_nil))
    (dss_cons (d_setDc nd rfl (sw_trueD rfl rfl rfl (by decide +kernel)) (dip_val (dp_var (pv 0))) (own := [("part", 2)]) (blkOk_by (by kernel_rfl)) (by decide) (fun _ _ _ _ _ => (d_name nd)) (fun _ _ _ _ _ => (dts_one (dt_cmp (dop_oge (ru64 hr)) (dp_var (pv 2)) (DF.p (df_bin dop_sub (DF.p (df_callB dcl_lenS rfl B.b_len bt_len (dps_cons (dp_var (pv 0)) dps_nil))) (DF.p df_int))) nb))) (fun _ _ _ _ _ => (df_var (pv 2))) (fun _ _ _ _ _ => df_bl))
    (dss_freeze 1 (dss_one (ds_ret (DN.f (dn_callB (dcln_sortA rfl (ru hr)) rfl B.b_sorted bt_sorted (dps_cons (DN.p (dn_lc rfl nd (DIF.p (di_val (df_var (pv 1)))) (own := [("part", 2)]) (blkOk_by (by kernel_rfl)) (by decide) (fun _ _ _ _ _ => (d_name nd)) (fun _ _ _ _ _ => dts_nil) (fun _ _ _ _ _ => (df_callK h_row_ahead (by decide) hgd hr tk_blk rfl (dfs_cons (df_var (pv 0)) (dfs_cons (df_var (pv 2)) dfs_nil)) rfl (len_cons (len_cons len_nil)))))) dps_nil)))))))

/-! ### is_begun_in -/
def g_is_begun_in : SX := (sRet (eD (eAnd (eBl (eOp dNe (vP 0) (eTup eNil))) (eBl (eOp oLt (eIx (vP 0) (ePure (.int 0))) (eOp dSub (eCl bLenS (eCons (vP 0) eNil)) (ePure (.int 1))))))))
def F_is_begun_in : Fn := defOf 1 g_is_begun_in
theorem sc_is_begun_in : FnScope ["row"] ["row"] (defScope s_is_begun_in) := ⟨rfl, rfl, rfl, by decide +kernel, rfl, by decide +kernel, by decide +kernel⟩
theorem ok_is_begun_in {P : Program} {w : World} {K : PySem.W.Frag} {mg : Str → Option Value} {base : Heap} (B : Blt mg) (h : Has K mg "is_begun_in" "is_begun_in" s_is_begun_in)  : Kp P w K mg base 1 "is_begun_in" 1 F_is_begun_in := by
  have nd := sc_is_begun_in.nd
  exact kp_def h sc_is_begun_in rfl rfl (by decide) (fun _ _ _ _ _ _ us hl => match us, hl with | [_], _ => rfl) fun _ _ _ _ _ _ _ _ hgd hr tk =>
    dss_one (ds_ret (DB.df (db_and (db_of (df_cmp (dop_ne (ru64 hr)) (dp_var (pv 0)) (DF.p (df_tup dfs_nil)) nb)) (db_one (db_of (df_cmp (dop_olt (ru64 hr)) (DF.p (df_ix (ru1 hr) (dp_var (pv 0)) (DF.p df_int))) (DF.p (df_bin dop_sub (DF.p (df_callB dcl_lenS rfl B.b_len bt_len (dps_cons (dp_var (pv 0)) dps_nil))) (DF.p df_int))) nb))))))

/-! ### run_in -/
def b_run_in_1 : SX := (sSeq (sPut 3 (vP 2) (eCl bLenS (eCons (vP 1) eNil)))
    (sSeq (sChgL 1 hApp (vF 2))
    (sSet 2 (eCall F_stepped_in (eCons (vF 2) eNil)))))
def g_run_in : SX := (sSeq (sPar3 1 2 3 (eOw (eLst eNil)) (eFz (vF 0)) (eOw (ePure (.dct []))))
    (sSeq (sWhile (eNotIn (vP 2) (vP 3)) b_run_in_1 100000)
    (sRet (eTup (eCons (eSl dSlL (vP 1) (ePure none) (eOpt (eIx (vP 3) (vP 2)))) (eCons (eSl dSlL (vP 1) (eOpt (eIx (vP 3) (vP 2))) (ePure none)) eNil))))))
def F_run_in : Fn := defOf 4 g_run_in
theorem sc_run_in : FnScope ["row", "met", "here", "places"] ["row"] (defScope s_run_in) := ⟨rfl, rfl, rfl, by decide +kernel, rfl, by decide +kernel, by decide +kernel⟩
theorem ok_run_in {P : Program} {w : World} {K : PySem.W.Frag} {mg : Str → Option Value} {base : Heap} (B : Blt mg) (h : Has K mg "run_in" "run_in" s_run_in) (h_stepped_in : Kp P w K mg base 1 "stepped_in" 1 F_stepped_in) : Kp P w K mg base 2 "run_in" 1 F_run_in := by
  have nd := sc_run_in.nd
  exact kp_def h sc_run_in rfl rfl (by decide) (fun _ _ _ _ _ _ us hl => match us, hl with | [_], _ => rfl) fun _ _ _ _ _ _ _ _ hgd hr tk =>
    dss_cons (d_par3 nd rfl (DN.sl (dn_lst dfs_nil)) (DF.sl (df_var (pv 0))) (DN.sl dn_dnewT) (by rfl))
    (dss_cons (ds_while (n := 100000) (passes_of rfl) (dt_notIn (ru65 hr) (dp_var (pv 2)) (dp_var (pv 3)) (by with_unfolding_all rfl))
      (dss_cons (ds_put (ru1 hr) (pv 3) (dp_var (pv 2)) (df_callB dcl_lenS rfl B.b_len bt_len (dps_cons (dp_var (pv 1)) dps_nil)))
      (dss_cons (ds_append (pv 1) (df_var (pv 2)))
      (dss_one (d_set nd (df_callK h_stepped_in (by decide) hgd hr tk rfl (dfs_cons (df_var (pv 2)) dfs_nil) rfl (len_cons len_nil)))))))
    (dss_one (ds_ret (df_tup (dfs_cons (DN.f (dn_slL (dp_var (pv 1)) do_none (do_some (DF.p (df_ix (ru1 hr) (dp_var (pv 3)) (dp_var (pv 2))))))) (dfs_cons (DN.f (dn_slL (dp_var (pv 1)) (do_some (DF.p (df_ix (ru1 hr) (dp_var (pv 3)) (dp_var (pv 2))))) do_none)) dfs_nil))))))

/-! ### require_size -/
def g_require_size : SX := (sDrop (eCall F_require_number (eCons (vF 0) (eCons (ePure (.int 0)) (eCons (vF 1) eNil)))))
def F_require_size : Fn := defOf 2 g_require_size
theorem sc_require_size : FnScope ["n", "most"] ["n", "most"] (defScope s_require_size) := ⟨rfl, rfl, rfl, by decide +kernel, rfl, by decide +kernel, by decide +kernel⟩
theorem ok_require_size {P : Program} {w : World} {K : PySem.W.Frag} {mg : Str → Option Value} {base : Heap} (B : Blt mg) (h : Has K mg "require_size" "require_size" s_require_size) (h_require_number : Kp P w K mg base 3 "require_number" 3 F_require_number) : Kp P w K mg base 4 "require_size" 2 F_require_size := by
  have nd := sc_require_size.nd
  exact kp_def h sc_require_size rfl rfl (by decide) (fun _ _ _ _ _ _ us hl => match us, hl with | [_, _], _ => rfl) fun _ _ _ _ _ _ _ _ hgd hr tk =>
    dss_one (ds_drop (DF.p (df_callK h_require_number (by decide) hgd hr tk rfl (dfs_cons (df_var (pv 0)) (dfs_cons df_int (dfs_cons (df_var (pv 1)) dfs_nil))) rfl (len_cons (len_cons (len_cons len_nil))))))

/-! ### stepped -/
def g_stepped : SX := (sSeq (sDrop (eCall F_require_row (eCons (vF 0) eNil)))
    (sRet (eCall F_stepped_in (eCons (vF 0) eNil))))
def F_stepped : Fn := defOf 1 g_stepped
theorem sc_stepped : FnScope ["row"] ["row"] (defScope s_stepped) := ⟨rfl, rfl, rfl, by decide +kernel, rfl, by decide +kernel, by decide +kernel⟩
theorem ok_stepped {P : Program} {w : World} {K : PySem.W.Frag} {mg : Str → Option Value} {base : Heap} (B : Blt mg) (h : Has K mg "stepped" "stepped" s_stepped) (h_require_row : Kp P w K mg base 5 "require_row" 1 F_require_row) (h_stepped_in : Kp P w K mg base 1 "stepped_in" 1 F_stepped_in) : Kp P w K mg base 6 "stepped" 1 F_stepped := by
  have nd := sc_stepped.nd
  exact kp_def h sc_stepped rfl rfl (by decide) (fun _ _ _ _ _ _ us hl => match us, hl with | [_], _ => rfl) fun _ _ _ _ _ _ _ _ hgd hr tk =>
    dss_cons (ds_drop (DF.p (df_callK h_require_row (by decide) hgd hr tk rfl (dfs_cons (df_var (pv 0)) dfs_nil) rfl (len_cons len_nil))))
    (dss_one (ds_ret (df_callK h_stepped_in (by decide) hgd hr tk rfl (dfs_cons (df_var (pv 0)) dfs_nil) rfl (len_cons len_nil))))

/-! ### stepped_often -/
def g_stepped_often : SX := (sSeq (sDrop (eCall F_require_row (eCons (vF 0) eNil)))
    (sSeq (sDrop (eCall F_require_number (eCons (vF 1) (eCons (ePure (.int 0)) (eCons (ePure .non) eNil)))))
    (sSeq (sTgt (eCall F_run_in (eCons (vF 0) eNil)) (gtTup 2 (gtCons (gtN 2) (gtCons (gtN 3) gtNil))))
    (sRet (eIf (eBl (eOp oLt (vP 1) (eCl bLenS (eCons (vP 2) eNil)))) (eIx (vP 2) (vP 1)) (eIx (vP 3) (eOp dMod (eOp dSub (vP 1) (eCl bLenS (eCons (vP 2) eNil))) (eCl bLenS (eCons (vP 3) eNil)))))))))
def F_stepped_often : Fn := defOf 4 g_stepped_often
theorem sc_stepped_often : FnScope ["row", "k", "tail", "ring"] ["row", "k"] (defScope s_stepped_often) := ⟨rfl, rfl, rfl, by decide +kernel, rfl, by decide +kernel, by decide +kernel⟩
theorem ok_stepped_often {P : Program} {w : World} {K : PySem.W.Frag} {mg : Str → Option Value} {base : Heap} (B : Blt mg) (h : Has K mg "stepped_often" "stepped_often" s_stepped_often) (h_require_number : Kp P w K mg base 3 "require_number" 3 F_require_number) (h_require_row : Kp P w K mg base 5 "require_row" 1 F_require_row) (h_run_in : Kp P w K mg base 2 "run_in" 1 F_run_in) : Kp P w K mg base 6 "stepped_often" 2 F_stepped_often := by
  have nd := sc_stepped_often.nd
  exact kp_def h sc_stepped_often rfl rfl (by decide) (fun _ _ _ _ _ _ us hl => match us, hl with | [_, _], _ => rfl) fun _ _ _ _ _ _ _ _ hgd hr tk =>
    dss_cons (ds_drop (DF.p (df_callK h_require_row (by decide) hgd hr tk rfl (dfs_cons (df_var (pv 0)) dfs_nil) rfl (len_cons len_nil))))
    (dss_cons (ds_drop (DF.p (df_callK h_require_number (by decide) hgd hr tk rfl (dfs_cons (df_var (pv 1)) (dfs_cons df_int (dfs_cons df_non dfs_nil))) rfl (len_cons (len_cons (len_cons len_nil))))))
    (dss_cons (ds_tgt (df_callK h_run_in (by decide) hgd hr tk rfl (dfs_cons (df_var (pv 0)) dfs_nil) rfl (len_cons len_nil)) (dg_tup rfl (dgs_cons (d_name nd) (dgs_cons (d_name nd) dgs_nil))))
    (dss_one (ds_ret (df_if (dt_cmp (dop_olt (ru64 hr)) (dp_var (pv 1)) (DF.p (df_callB dcl_lenS rfl B.b_len bt_len (dps_cons (dp_var (pv 2)) dps_nil))) nb) (df_ix (ru1 hr) (dp_var (pv 2)) (dp_var (pv 1))) (df_ix (ru1 hr) (dp_var (pv 3)) (DF.p (df_bin dop_mod (DF.p (df_bin dop_sub (dp_var (pv 1)) (DF.p (df_callB dcl_lenS rfl B.b_len bt_len (dps_cons (dp_var (pv 2)) dps_nil))))) (DF.p (df_callB dcl_lenS rfl B.b_len bt_len (dps_cons (dp_var (pv 3)) dps_nil)))))))))))

/-! ### ahead_of -/
def g_ahead_of : SX := (sSeq (sDrop (eCall F_require_row (eCons (vF 0) eNil)))
    (sRet (eCl bTuple (eCons (eCall F_ahead_in (eCons (vF 0) eNil)) eNil))))
def F_ahead_of : Fn := defOf 1 g_ahead_of
theorem sc_ahead_of : FnScope ["row"] ["row"] (defScope s_ahead_of) := ⟨rfl, rfl, rfl, by decide +kernel, rfl, by decide +kernel, by decide +kernel⟩
theorem ok_ahead_of {P : Program} {w : World} {K : PySem.W.Frag} {mg : Str → Option Value} {base : Heap} (B : Blt mg) (h : Has K mg "ahead_of" "ahead_of" s_ahead_of) (h_require_row : Kp P w K mg base 5 "require_row" 1 F_require_row) (h_ahead_in : Kp P w K mg base 2 "ahead_in" 1 F_ahead_in) : Kp P w K mg base 6 "ahead_of" 1 F_ahead_of := by
  have nd := sc_ahead_of.nd
  exact kp_def h sc_ahead_of rfl rfl (by decide) (fun _ _ _ _ _ _ us hl => match us, hl with | [_], _ => rfl) fun _ _ _ _ _ _ _ _ hgd hr tk =>
    dss_cons (ds_drop (DF.p (df_callK h_require_row (by decide) hgd hr tk rfl (dfs_cons (df_var (pv 0)) dfs_nil) rfl (len_cons len_nil))))
    (dss_one (ds_ret (df_callTy dcl_tuple rfl B.b_tuple bt_tuple (dps_cons (DF.p (df_callK h_ahead_in (by decide) hgd hr tk rfl (dfs_cons (df_var (pv 0)) dfs_nil) rfl (len_cons len_nil))) dps_nil))))

/-! ### is_begun -/
def g_is_begun : SX := (sSeq (sDrop (eCall F_require_row (eCons (vF 0) eNil)))
    (sRet (eCall F_is_begun_in (eCons (vF 0) eNil))))
def F_is_begun : Fn := defOf 1 g_is_begun
theorem sc_is_begun : FnScope ["row"] ["row"] (defScope s_is_begun) := ⟨rfl, rfl, rfl, by decide +kernel, rfl, by decide +kernel, by decide +kernel⟩
theorem ok_is_begun {P : Program} {w : World} {K : PySem.W.Frag} {mg : Str → Option Value} {base : Heap} (B : Blt mg) (h : Has K mg "is_begun" "is_begun" s_is_begun) (h_require_row : Kp P w K mg base 5 "require_row" 1 F_require_row) (h_is_begun_in : Kp P w K mg base 1 "is_begun_in" 1 F_is_begun_in) : Kp P w K mg base 6 "is_begun" 1 F_is_begun := by
  have nd := sc_is_begun.nd
  exact kp_def h sc_is_begun rfl rfl (by decide) (fun _ _ _ _ _ _ us hl => match us, hl with | [_], _ => rfl) fun _ _ _ _ _ _ _ _ hgd hr tk =>
    dss_cons (ds_drop (DF.p (df_callK h_require_row (by decide) hgd hr tk rfl (dfs_cons (df_var (pv 0)) dfs_nil) rfl (len_cons len_nil))))
    (dss_one (ds_ret (df_callK h_is_begun_in (by decide) hgd hr tk rfl (dfs_cons (df_var (pv 0)) dfs_nil) rfl (len_cons len_nil))))

/-! ### run_of -/
def g_run_of : SX := (sSeq (sDrop (eCall F_require_row (eCons (vF 0) eNil)))
    (sSeq (sTgt (eCall F_run_in (eCons (vF 0) eNil)) (gtTup 2 (gtCons (gtN 1) (gtCons (gtN 2) gtNil))))
    (sRet (eTup (eCons (eCl bTuple (eCons (vP 1) eNil)) (eCons (eCl bTuple (eCons (vP 2) eNil)) eNil))))))
def F_run_of : Fn := defOf 3 g_run_of
theorem sc_run_of : FnScope ["row", "tail", "ring"] ["row"] (defScope s_run_of) := ⟨rfl, rfl, rfl, by decide +kernel, rfl, by decide +kernel, by decide +kernel⟩
theorem ok_run_of {P : Program} {w : World} {K : PySem.W.Frag} {mg : Str → Option Value} {base : Heap} (B : Blt mg) (h : Has K mg "run_of" "run_of" s_run_of) (h_require_row : Kp P w K mg base 5 "require_row" 1 F_require_row) (h_run_in : Kp P w K mg base 2 "run_in" 1 F_run_in) : Kp P w K mg base 6 "run_of" 1 F_run_of := by
  have nd := sc_run_of.nd
  exact kp_def h sc_run_of rfl rfl (by decide) (fun _ _ _ _ _ _ us hl => match us, hl with | [_], _ => rfl) fun _ _ _ _ _ _ _ _ hgd hr tk =>
    dss_cons (ds_drop (DF.p (df_callK h_require_row (by decide) hgd hr tk rfl (dfs_cons (df_var (pv 0)) dfs_nil) rfl (len_cons len_nil))))
    (dss_cons (ds_tgt (df_callK h_run_in (by decide) hgd hr tk rfl (dfs_cons (df_var (pv 0)) dfs_nil) rfl (len_cons len_nil)) (dg_tup rfl (dgs_cons (d_name nd) (dgs_cons (d_name nd) dgs_nil))))
    (dss_one (ds_ret (df_tup (dfs_cons (df_callTy dcl_tuple rfl B.b_tuple bt_tuple (dps_cons (dp_var (pv 1)) dps_nil)) (dfs_cons (df_callTy dcl_tuple rfl B.b_tuple bt_tuple (dps_cons (dp_var (pv 2)) dps_nil)) dfs_nil))))))

/-! ### begun_rows -/
def g_begun_rows : SX := (sSeq (sDrop (eCall F_require_size (eCons (vF 0) (eCons (ePure (.int 25)) eNil))))
    (sRet (eCl bTuple (eCons (eComp (eSeq (eCall F_rows_by (eCons (vF 0) (eCons (vF 0) eNil)))) [1] (gtN 1) (eTru (eCall F_is_begun_in (eCons (vF 1) eNil))) (vF 1)) eNil))))
def F_begun_rows : Fn := defOf 2 g_begun_rows
theorem sc_begun_rows : FnScope ["n", "row"] ["n"] (defScope s_begun_rows) := ⟨rfl, rfl, rfl, by decide +kernel, rfl, by decide +kernel, by decide +kernel⟩
theorem ok_begun_rows {P : Program} {w : World} {K : PySem.W.Frag} {mg : Str → Option Value} {base : Heap} (B : Blt mg) (h : Has K mg "begun_rows" "begun_rows" s_begun_rows) (h_rows_by : Kp P w K mg base 1 "rows_by" 2 F_rows_by) (h_is_begun_in : Kp P w K mg base 1 "is_begun_in" 1 F_is_begun_in) (h_require_size : Kp P w K mg base 4 "require_size" 2 F_require_size) : Kp P w K mg base 5 "begun_rows" 1 F_begun_rows := by
  have nd := sc_begun_rows.nd
  exact kp_def h sc_begun_rows rfl rfl (by decide) (fun _ _ _ _ _ _ us hl => match us, hl with | [_], _ => rfl) fun _ _ _ _ _ _ _ _ hgd hr tk =>
    dss_cons (ds_drop (DF.p (df_callK h_require_size (by decide) hgd hr tk rfl (dfs_cons (df_var (pv 0)) (dfs_cons (df_gint rfl B.c_MOST_LISTED) dfs_nil)) rfl (len_cons (len_cons len_nil)))))
    (dss_one (ds_ret (df_callTy dcl_tuple rfl B.b_tuple bt_tuple (dps_cons (DN.p (dn_lc rfl nd (dip_val (DF.p (df_callK h_rows_by (by decide) hgd hr tk rfl (dfs_cons (df_var (pv 0)) (dfs_cons (df_var (pv 0)) dfs_nil)) rfl (len_cons (len_cons len_nil))))) (own := [("row", 1)]) (blkOk_by (by kernel_rfl)) (by decide) (fun _ _ _ _ _ => (d_name nd)) (fun _ _ _ _ _ => (dts_one (dt_tru (DF.p (df_callK h_is_begun_in (by decide) hgd hr tk_blk rfl (dfs_cons (df_var (pv 1)) dfs_nil) rfl (len_cons len_nil)))))) (fun _ _ _ _ _ => (df_var (pv 1))))) dps_nil))))

/-! ### count_begun -/
def g_count_begun : SX := (sSeq (sDrop (eCall F_require_size (eCons (vF 0) (eCons (ePure (.int 25)) eNil))))
    (sRet (eCl bLenS (eCons (eComp (eSeq (eCall F_rows_by (eCons (vF 0) (eCons (vF 0) eNil)))) [1] (gtN 1) (eTru (eCall F_is_begun_in (eCons (vF 1) eNil))) (vF 1)) eNil))))
def F_count_begun : Fn := defOf 2 g_count_begun
theorem sc_count_begun : FnScope ["n", "row"] ["n"] (defScope s_count_begun) := ⟨rfl, rfl, rfl, by decide +kernel, rfl, by decide +kernel, by decide +kernel⟩
theorem ok_count_begun {P : Program} {w : World} {K : PySem.W.Frag} {mg : Str → Option Value} {base : Heap} (B : Blt mg) (h : Has K mg "count_begun" "count_begun" s_count_begun) (h_rows_by : Kp P w K mg base 1 "rows_by" 2 F_rows_by) (h_is_begun_in : Kp P w K mg base 1 "is_begun_in" 1 F_is_begun_in) (h_require_size : Kp P w K mg base 4 "require_size" 2 F_require_size) : Kp P w K mg base 5 "count_begun" 1 F_count_begun := by
  have nd := sc_count_begun.nd
  exact kp_def h sc_count_begun rfl rfl (by decide) (fun _ _ _ _ _ _ us hl => match us, hl with | [_], _ => rfl) fun _ _ _ _ _ _ _ _ hgd hr tk =>
    dss_cons (ds_drop (DF.p (df_callK h_require_size (by decide) hgd hr tk rfl (dfs_cons (df_var (pv 0)) (dfs_cons (df_gint rfl B.c_MOST_LISTED) dfs_nil)) rfl (len_cons (len_cons len_nil)))))
    (dss_one (ds_ret (df_callB dcl_lenS rfl B.b_len bt_len (dps_cons (DN.p (dn_lc rfl nd (dip_val (DF.p (df_callK h_rows_by (by decide) hgd hr tk rfl (dfs_cons (df_var (pv 0)) (dfs_cons (df_var (pv 0)) dfs_nil)) rfl (len_cons (len_cons len_nil))))) (own := [("row", 1)]) (blkOk_by (by kernel_rfl)) (by decide) (fun _ _ _ _ _ => (d_name nd)) (fun _ _ _ _ _ => (dts_one (dt_tru (DF.p (df_callK h_is_begun_in (by decide) hgd hr tk_blk rfl (dfs_cons (df_var (pv 1)) dfs_nil) rfl (len_cons len_nil)))))) (fun _ _ _ _ _ => (df_var (pv 1))))) dps_nil))))

/-! ### _law_dice -/
def g__law_dice : SX := (sSeq (sSet 2 (eIf (eBl (eOp oLt (vP 1) (eCl bLenS (eCons (vP 0) eNil)))) (eCl bInt (eCons (eIx (vP 0) (vP 1)) eNil)) (eOp dAdd (eOp dMul (ePure (.int 97)) (vP 1)) (ePure (.int 43)))))
    (sSeq (sSet 3 (eOp dMod (eCl bMax (eCons (ePure (.int 0)) (eCons (eOp dSub (eCl bAbs (eCons (vP 2) eNil)) (eOp dPow (ePure (.int 10)) (ePure (.int 17)))) eNil))) (eOp dMul (eOp dPow (ePure (.int 10)) (ePure (.int 60))) (eOp dPow (ePure (.int 10)) (ePure (.int 60))))))
    (sRetC (eLst (eCons (vF 3) (eCons (eOp dAdd (eOp dAdd (eOp dAdd (eOp dMul (eOp dMod (eCl bAbs (eCons (vP 2) eNil)) (ePure (.int 1152921504606846737))) (ePure (.int 37))) (eOp dMul (ePure (.int 859)) (vP 1))) (eOp dMul (ePure (.int 31)) (eCl bInt (eCons (eD (eBl (eOp oLt (vP 2) (ePure (.int 0))))) eNil)))) (ePure (.int 17))) (eCons (ePure (.int 0)) eNil)))))))
def F__law_dice : Fn := defOf 4 g__law_dice
theorem sc__law_dice : FnScope ["script", "spot", "cell", "left"] ["script", "spot"] (defScope s__law_dice) := ⟨rfl, rfl, rfl, by decide +kernel, rfl, by decide +kernel, by decide +kernel⟩
theorem ok__law_dice {P : Program} {w : World} {K : PySem.W.Frag} {mg : Str → Option Value} {base : Heap} (B : Blt mg) (h : Has K mg "_law_dice" "_law_dice" s__law_dice)  : Kp P w K mg base 1 "_law_dice" 2 F__law_dice := by
  have nd := sc__law_dice.nd
  exact kp_def h sc__law_dice rfl rfl (by decide) (fun _ _ _ _ _ _ us hl => match us, hl with | [_, _], _ => rfl) fun _ _ _ _ _ _ _ _ hgd hr tk =>
    dss_cons (d_set nd (df_if (dt_cmp (dop_olt (ru64 hr)) (dp_var (pv 1)) (DF.p (df_callB dcl_lenS rfl B.b_len bt_len (dps_cons (dp_var (pv 0)) dps_nil))) nb) (df_callTy dcl_int rfl B.b_int bt_int (dps_cons (DF.p (df_ix (ru1 hr) (dp_var (pv 0)) (dp_var (pv 1)))) dps_nil)) (df_bin dop_add (DF.p (df_bin dop_mul (DF.p df_int) (dp_var (pv 1)))) (DF.p df_int))))
    (dss_cons (d_set nd (df_bin dop_mod (DF.p (df_callB (dcl_max rfl (ru1 hr)) rfl B.b_max bt_max (dps_cons (DF.p df_int) (dps_cons (DF.p (df_bin dop_sub (DF.p (df_callB dcl_abs rfl B.b_abs bt_abs (dps_cons (dp_var (pv 2)) dps_nil))) (DF.p (df_bin dop_pow (DF.p df_int) (DF.p df_int))))) dps_nil)))) (DF.p (df_bin dop_mul (DF.p (df_bin dop_pow (DF.p df_int) (DF.p df_int))) (DF.p (df_bin dop_pow (DF.p df_int) (DF.p df_int)))))))
    (dss_one (ds_retC (dn_lst (dfs_cons (df_var (pv 3)) (dfs_cons (df_bin dop_add (DF.p (df_bin dop_add (DF.p (df_bin dop_add (DF.p (df_bin dop_mul (DF.p (df_bin dop_mod (DF.p (df_callB dcl_abs rfl B.b_abs bt_abs (dps_cons (dp_var (pv 2)) dps_nil))) (DF.p df_int))) (DF.p df_int))) (DF.p (df_bin dop_mul (DF.p df_int) (dp_var (pv 1)))))) (DF.p (df_bin dop_mul (DF.p df_int) (DF.p (df_callTy dcl_int rfl B.b_int bt_int (dps_cons (DF.p (DB.df (db_of (df_cmp (dop_olt (ru64 hr)) (dp_var (pv 2)) (DF.p df_int) nb)))) dps_nil))))))) (DF.p df_int)) (dfs_cons df_int dfs_nil)))))))

/-! ### _law_roll -/
def g__law_roll : SX := (sSeq (sIf (eBl (eOp oGt (eIx (vP 0) (ePure (.int 0))) (ePure (.int 0)))) (sSeq (sSet 4 (eOp dMod (eCl bInt (eCons (eIx (vP 0) (ePure (.int 0))) eNil)) (vP 1)))
    (sSeq (sPut 0 (ePure (.int 0)) (eOp dDiv (eIx (vP 0) (ePure (.int 0))) (vP 1)))
    (sRet (vF 4)))) sNil)
    (sSeq (sPut 0 (ePure (.int 2)) (eOp dAdd (eIx (vP 0) (ePure (.int 2))) (ePure (.int 1))))
    (sSeq (sSet 2 (eOp dMod (eCl bInt (eCons (eOp dAdd (eIx (vP 0) (ePure (.int 1))) (eOp dMul (ePure (.int 15486209)) (eIx (vP 0) (ePure (.int 2))))) eNil)) (ePure (.int 2305843009213693951))))
    (sSeq (sSet 3 (eOp dAdd (eOp dMul (eOp dMod (eCl bInt (eCons (eOp dAdd (eOp dMul (vP 2) (vP 2)) (eOp dMul (ePure (.int 199)) (eIx (vP 0) (ePure (.int 2))))) eNil)) (ePure (.int 2305843009213693907))) (ePure (.int 7368751))) (vP 2)))
    (sRet (eOp dMod (eCl bInt (eCons (eOp dDiv (vP 3) (ePure (.int 65536))) eNil)) (vP 1)))))))
def F__law_roll : Fn := defOf 5 g__law_roll
theorem sc__law_roll : FnScope ["dice", "total", "one", "two", "found"] ["dice", "total"] (defScope s__law_roll) := ⟨rfl, rfl, rfl, by decide +kernel, rfl, by decide +kernel, by decide +kernel⟩
theorem ok__law_roll {P : Program} {w : World} {K : PySem.W.Frag} {mg : Str → Option Value} {base : Heap} (B : Blt mg) (h : Has K mg "_law_roll" "_law_roll" s__law_roll)  : Kp P w K mg base 1 "_law_roll" 2 F__law_roll := by
  have nd := sc__law_roll.nd
  exact kp_def h sc__law_roll rfl rfl (by decide) (fun _ _ _ _ _ _ us hl => match us, hl with | [_, _], _ => rfl) fun _ _ _ _ _ _ _ _ hgd hr tk =>
    dss_cons (ds_if (dt_cmp (dop_ogt (ru64 hr)) (DF.p (df_ix (ru1 hr) (dp_var (pv 0)) (DF.p df_int))) (DF.p df_int) nb)
      (dss_cons (d_set nd (df_bin dop_mod (DF.p (df_callTy dcl_int rfl B.b_int bt_int (dps_cons (DF.p (df_ix (ru1 hr) (dp_var (pv 0)) (DF.p df_int))) dps_nil))) (dp_var (pv 1))))
      (dss_cons (ds_put (ru1 hr) (pv 0) (DF.p df_int) (df_bin dop_div (DF.p (df_ix (ru1 hr) (dp_var (pv 0)) (DF.p df_int))) (dp_var (pv 1))))
      (dss_one (ds_ret (df_var (pv 4))))))
      (dss_nil))
    (dss_cons (ds_put (ru1 hr) (pv 0) (DF.p df_int) (df_bin dop_add (DF.p (df_ix (ru1 hr) (dp_var (pv 0)) (DF.p df_int))) (DF.p df_int)))
    (dss_cons (d_set nd (df_bin dop_mod (DF.p (df_callTy dcl_int rfl B.b_int bt_int (dps_cons (DF.p (df_bin dop_add (DF.p (df_ix (ru1 hr) (dp_var (pv 0)) (DF.p df_int))) (DF.p (df_bin dop_mul (DF.p df_int) (DF.p (df_ix (ru1 hr) (dp_var (pv 0)) (DF.p df_int))))))) dps_nil))) (DF.p df_int)))
    (dss_cons (d_set nd (df_bin dop_add (DF.p (df_bin dop_mul (DF.p (df_bin dop_mod (DF.p (df_callTy dcl_int rfl B.b_int bt_int (dps_cons (DF.p (df_bin dop_add (DF.p (df_bin dop_mul (dp_var (pv 2)) (dp_var (pv 2)))) (DF.p (df_bin dop_mul (DF.p df_int) (DF.p (df_ix (ru1 hr) (dp_var (pv 0)) (DF.p df_int))))))) dps_nil))) (DF.p df_int))) (DF.p df_int))) (dp_var (pv 2))))
    (dss_one (ds_ret (df_bin dop_mod (DF.p (df_callTy dcl_int rfl B.b_int bt_int (dps_cons (DF.p (df_bin dop_div (dp_var (pv 3)) (DF.p df_int))) dps_nil))) (dp_var (pv 1))))))))

/-! ### _law_pick -/
def g__law_pick : SX := (sRet (eIx (vP 1) (eCall F__law_roll (eCons (vF 0) (eCons (eCl bLenS (eCons (vP 1) eNil)) eNil)))))
def F__law_pick : Fn := defOf 2 g__law_pick
theorem sc__law_pick : FnScope ["dice", "items"] ["dice", "items"] (defScope s__law_pick) := ⟨rfl, rfl, rfl, by decide +kernel, rfl, by decide +kernel, by decide +kernel⟩
theorem ok__law_pick {P : Program} {w : World} {K : PySem.W.Frag} {mg : Str → Option Value} {base : Heap} (B : Blt mg) (h : Has K mg "_law_pick" "_law_pick" s__law_pick) (h__law_roll : Kp P w K mg base 1 "_law_roll" 2 F__law_roll) : Kp P w K mg base 2 "_law_pick" 2 F__law_pick := by
  have nd := sc__law_pick.nd
  exact kp_def h sc__law_pick rfl rfl (by decide) (fun _ _ _ _ _ _ us hl => match us, hl with | [_, _], _ => rfl) fun _ _ _ _ _ _ _ _ hgd hr tk =>
    dss_one (ds_ret (df_ix (ru1 hr) (dp_var (pv 1)) (DF.p (df_callK h__law_roll (by decide) hgd hr tk rfl (dfs_cons (df_var (pv 0)) (dfs_cons (df_callB dcl_lenS rfl B.b_len bt_len (dps_cons (dp_var (pv 1)) dps_nil)) dfs_nil)) rfl (len_cons (len_cons len_nil))))))

/-! ### _law_ascending -/
def g__law_ascending : SX := (sRet (eCl bSortA (eCons (eCl bDict (eCons (eComp (eSeq (vP 0)) [1] (gtN 1) (ePure true) (eTup (eCons (vF 1) (eCons (ePure (.bl true)) eNil)))) eNil)) eNil)))
def F__law_ascending : Fn := defOf 2 g__law_ascending
theorem sc__law_ascending : FnScope ["items", "one"] ["items"] (defScope s__law_ascending) := ⟨rfl, rfl, rfl, by decide +kernel, rfl, by decide +kernel, by decide +kernel⟩
theorem ok__law_ascending {P : Program} {w : World} {K : PySem.W.Frag} {mg : Str → Option Value} {base : Heap} (B : Blt mg) (h : Has K mg "_law_ascending" "_law_ascending" s__law_ascending)  : Kp P w K mg base 1 "_law_ascending" 1 F__law_ascending := by
  have nd := sc__law_ascending.nd
  exact kp_def h sc__law_ascending rfl rfl (by decide) (fun _ _ _ _ _ _ us hl => match us, hl with | [_], _ => rfl) fun _ _ _ _ _ _ _ _ hgd hr tk =>
    dss_one (ds_ret (DN.f (dn_callB (dcln_sortA rfl (ru hr)) rfl B.b_sorted bt_sorted (dps_cons (DN.p (dn_callTy (dcln_dict rfl) rfl B.b_dict bt_dict (dps_cons (DN.p (dn_lc rfl nd (dip_val (dp_var (pv 0))) (own := [("one", 1)]) (blkOk_by (by kernel_rfl)) (by decide) (fun _ _ _ _ _ => (d_name nd)) (fun _ _ _ _ _ => dts_nil) (fun _ _ _ _ _ => (df_tup (dfs_cons (df_var (pv 1)) (dfs_cons df_bl dfs_nil)))))) dps_nil))) dps_nil))))

/-! ### _law_is_integer -/
def g__law_is_integer : SX := (sRet (eD (eAnd (eIsi "int" (vP 0)) (eAnd (eNotB (eIsi "bool" (vP 0))) (eChain oLe oLe (vP 1) (vP 0) (vP 2))))))
def F__law_is_integer : Fn := defOf 3 g__law_is_integer
theorem sc__law_is_integer : FnScope ["value", "least", "most"] ["value", "least", "most"] (defScope s__law_is_integer) := ⟨rfl, rfl, rfl, by decide +kernel, rfl, by decide +kernel, by decide +kernel⟩
theorem ok__law_is_integer {P : Program} {w : World} {K : PySem.W.Frag} {mg : Str → Option Value} {base : Heap} (B : Blt mg) (h : Has K mg "_law_is_integer" "_law_is_integer" s__law_is_integer)  : Kp P w K mg base 1 "_law_is_integer" 3 F__law_is_integer := by
  have nd := sc__law_is_integer.nd
  exact kp_def h sc__law_is_integer rfl rfl (by decide) (fun _ _ _ _ _ _ us hl => match us, hl with | [_, _, _], _ => rfl) fun _ _ _ _ _ _ _ _ hgd hr tk =>
    dss_one (ds_ret (DB.df (db_and (db_isi bt_int (by decide) rfl B.b_isinstance rfl B.b_int (dp_var (pv 0))) (db_and (db_not (db_isi bt_bool (by decide) rfl B.b_isinstance rfl B.b_bool (dp_var (pv 0)))) (db_one (db_chain (dop_ole (ru64 hr)) (dop_ole (ru64 hr)) (dp_var (pv 1)) (dp_var (pv 0)) (dp_var (pv 2))))))))

/-! ### _law_rows -/
def b__law_rows_1 : SX := (sSeq (sPar 5 6 (eFz (eIf (eBl (eOp dNe (vP 4) (eTup eNil))) (eIx (vP 4) (eUn dNeg (ePure (.int 1)))) (vF 0))) (eFz (eOp dSub (vP 0) (eCl bSum (eCons (vP 4) eNil)))))
    (sChgL 3 hExt (eIf (eBl (eOp oGt (vP 6) (ePure (.int 0)))) (eComp (eRg2 (ePure (.int 1)) (eOp dAdd (eCl bMin (eCons (vP 5) (eCons (vP 6) eNil))) (ePure (.int 1)))) [7] (gtN 7) (ePure true) (eOp dAdd (vP 4) (eTup (eCons (vF 7) eNil)))) (eLst (eCons (vF 4) eNil)))))
def b__law_rows_2 : SX := (sSeq (sSetN 3 (eLst eNil))
    (sSeq (sFor (eItv (vF 1)) (gtN 4) b__law_rows_1)
    (sFreeze 3 (sSet 1 (vF 3)))))
def g__law_rows : SX := (sSeq (sSet 1 (eLst (eCons (eTup eNil) eNil)))
    (sSeq (sFor (eRg1 (vF 0)) (gtN 2) b__law_rows_2)
    (sRet (eCl bSortA (eCons (vP 1) eNil)))))
def F__law_rows : Fn := defOf 8 g__law_rows
theorem sc__law_rows : FnScope ["n", "found", "turn", "later", "row", "top", "left", "one"] ["n"] (defScope s__law_rows) := ⟨rfl, rfl, rfl, by decide +kernel, rfl, by decide +kernel, by decide +kernel⟩
theorem ok__law_rows {P : Program} {w : World} {K : PySem.W.Frag} {mg : Str → Option Value} {base : Heap} (B : Blt mg) (h : Has K mg "_law_rows" "_law_rows" s__law_rows)  : Kp P w K mg base 1 "_law_rows" 1 F__law_rows := by
  have nd := sc__law_rows.nd
  exact kp_def h sc__law_rows rfl rfl (by decide) (fun _ _ _ _ _ _ us hl => match us, hl with | [_], _ => rfl) fun _ _ _ _ _ _ _ _ hgd hr tk =>
    dss_cons (d_set nd (DN.f (dn_lst (dfs_cons (df_tup dfs_nil) dfs_nil))))
    (dss_cons (ds_for (passes_of rfl) rfl (di_range1 rfl B.b_range (df_var (pv 0))) (d_name nd)
      (dss_cons (d_setN nd (dn_lst dfs_nil))
      (dss_cons (ds_for (passes_of rfl) rfl (di_val (df_var (pv 1))) (d_name nd)
        (dss_cons (d_par nd rfl (DF.sl (df_if (dt_cmp (dop_ne (ru64 hr)) (dp_var (pv 4)) (DF.p (df_tup dfs_nil)) nb) (df_ix (ru1 hr) (dp_var (pv 4)) (DF.p (df_neg (DF.p df_int)))) (df_var (pv 0)))) (DF.sl (df_bin dop_sub (dp_var (pv 0)) (DF.p (df_callB (dcl_sum rfl) rfl B.b_sum bt_sum (dps_cons (dp_var (pv 4)) dps_nil))))) (by rfl))
        (dss_one (ds_extend (pv 3) (dp_if (dt_cmp (dop_ogt (ru64 hr)) (dp_var (pv 6)) (DF.p df_int) nb) (DN.p (dn_lc rfl nd (DIF.p (di_range2 rfl B.b_range df_int (df_bin dop_add (DF.p (df_callB (dcl_min rfl (ru1 hr)) rfl B.b_min bt_min (dps_cons (dp_var (pv 5)) (dps_cons (dp_var (pv 6)) dps_nil)))) (DF.p df_int)))) (own := [("one", 7)]) (blkOk_by (by kernel_rfl)) (by decide) (fun _ _ _ _ _ => (d_name nd)) (fun _ _ _ _ _ => dts_nil) (fun _ _ _ _ _ => (df_bin dop_add (dp_var (pv 4)) (DF.p (df_tup (dfs_cons (df_var (pv 7)) dfs_nil))))))) (DN.p (dn_lst (dfs_cons (df_var (pv 4)) dfs_nil))))))))
      (dss_freeze 3 (dss_one (d_set nd (df_var (pv 3))))))))
    (dss_one (ds_ret (DN.f (dn_callB (dcln_sortA rfl (ru hr)) rfl B.b_sorted bt_sorted (dps_cons (dp_var (pv 1)) dps_nil))))))

/-! ### _law_is_row -/
def g__law_is_row : SX := (sSeq (sIf (eOr (eNotB (eTru (eD (eIsi "tuple" (vP 0))))) (eBl (eOp dNe (eComp (eSeq (vP 0)) [1] (gtN 1) (eNotB (eTru (eCall F__law_is_integer (eCons (vF 1) (eCons (ePure (.int 1)) (eCons (ePure (.int 200)) eNil)))))) (vF 1)) (eLst eNil)))) (sRet (ePure (.bl false))) sNil)
    (sRet (eD (eAnd (eBl (eOp oLt (eCl bSum (eCons (vP 0) eNil)) (ePure (.int 201)))) (eBl (eOp dEq (eComp (eZip (vP 0) (eSl dSl (vP 0) (eOpt (ePure (.int 1))) (ePure none))) [1, 2] (gtTup 2 (gtCons (gtN 1) (gtCons (gtN 2) gtNil))) (eBl (eOp oLt (vP 1) (vP 2))) (ePure (.int 1))) (eLst eNil)))))))
def F__law_is_row : Fn := defOf 3 g__law_is_row
theorem sc__law_is_row : FnScope ["value", "one", "two"] ["value"] (defScope s__law_is_row) := ⟨rfl, rfl, rfl, by decide +kernel, rfl, by decide +kernel, by decide +kernel⟩
theorem ok__law_is_row {P : Program} {w : World} {K : PySem.W.Frag} {mg : Str → Option Value} {base : Heap} (B : Blt mg) (h : Has K mg "_law_is_row" "_law_is_row" s__law_is_row) (h__law_is_integer : Kp P w K mg base 1 "_law_is_integer" 3 F__law_is_integer) : Kp P w K mg base 2 "_law_is_row" 1 F__law_is_row := by
  have nd := sc__law_is_row.nd
  exact kp_def h sc__law_is_row rfl rfl (by decide) (fun _ _ _ _ _ _ us hl => match us, hl with | [_], _ => rfl) fun _ _ _ _ _ _ _ _ hgd hr tk =>
    dss_cons (ds_if (DW.t (dw_or (dt_not (dt_tru (DF.p (DB.df (db_isi bt_tuple (by decide) rfl B.b_isinstance rfl B.b_tuple (dp_var (pv 0))))))) (dw_or1 (dt_cmp (dop_ne (ru64 hr)) (DN.p (dn_lc rfl nd (dip_val (dp_var (pv 0))) (own := [("one", 1)]) (blkOk_by (by kernel_rfl)) (by decide) (fun _ _ _ _ _ => (d_name nd)) (fun _ _ _ _ _ => (dts_one (dt_not (dt_tru (DF.p (df_callK h__law_is_integer (by decide) hgd hr tk_blk rfl (dfs_cons (df_var (pv 1)) (dfs_cons df_int (dfs_cons df_int dfs_nil))) rfl (len_cons (len_cons (len_cons len_nil))))))))) (fun _ _ _ _ _ => (df_var (pv 1))))) (DN.p (dn_lst dfs_nil)) nb))))
      (dss_one (ds_ret df_bl))
      (dss_nil))
    (dss_one (ds_ret (DB.df (db_and (db_of (df_cmp (dop_olt (ru64 hr)) (DF.p (df_callB (dcl_sum rfl) rfl B.b_sum bt_sum (dps_cons (dp_var (pv 0)) dps_nil))) (DF.p df_int) nb)) (db_one (db_of (df_cmp (dop_eq (ru64 hr)) (DN.p (dn_lc rfl nd (dip_zip rfl B.b_zip (dp_var (pv 0)) (DF.p (df_sl (dp_var (pv 0)) (do_some (DF.p df_int)) do_none))) (own := [("one", 1), ("two", 2)]) (blkOk_by (by kernel_rfl)) (by decide) (fun _ _ _ _ _ => (dg_tup rfl (dgs_cons (d_name nd) (dgs_cons (d_name nd) dgs_nil)))) (fun _ _ _ _ _ => (dts_one (dt_cmp (dop_olt (ru64 hr)) (dp_var (pv 1)) (dp_var (pv 2)) nb))) (fun _ _ _ _ _ => df_int))) (DN.p (dn_lst dfs_nil)) nb)))))))

/-! ### _law_row -/
def b__law_row_1 : SX := (sPar 7 8 (eFz (eOp lAdd (eLst (eCons (vF 8) eNil)) (vP 7))) (eFz (eOp dAdd (vP 8) (ePure (.int 1)))))
def b__law_row_2 : SX := (sSeq (sSet 6 (eOp dAdd (ePure (.int 1)) (eCall F__law_roll (eCons (vF 0) (eCons (eIf (eBl (eOp dEq (vP 2) (ePure (.int 2)))) (vF 5) (eCl bMin (eCons (vP 5) (eCons (ePure (.int 4)) eNil)))) eNil)))))
    (sSeq (sChgL 4 hApp (vF 6))
    (sSet 5 (eOp dSub (vP 5) (vP 6)))))
def g__law_row : SX := (sSeq (sPar 2 3 (eFz (eCall F__law_roll (eCons (vF 0) (eCons (ePure (.int 4)) eNil)))) (eFz (eCall F__law_roll (eCons (vF 0) (eCons (eOp dAdd (vP 1) (ePure (.int 1))) eNil)))))
    (sSeq (sIf (eAnd (eBl (eOp dEq (vP 2) (ePure (.int 0)))) (eBl (eOp oGt (vP 3) (ePure (.int 0))))) (sSeq (sSet 6 (eOp dAdd (ePure (.int 1)) (eCall F__law_roll (eCons (vF 0) (eCons (vF 3) eNil)))))
    (sRet (eOp dMul (eTup (eCons (vF 6) eNil)) (eOp dDiv (vP 3) (vP 6))))) sNil)
    (sSeq (sIf (eBl (eOp dEq (vP 2) (ePure (.int 1)))) (sSeq (sPar 7 8 (eFz (eLst eNil)) (eFz (ePure (.int 1))))
    (sSeq (sWhile (eBl (eOp oLe (eOp dAdd (eCl bSum (eCons (vP 7) eNil)) (vP 8)) (vP 3))) b__law_row_1 100000)
    (sRet (eCl bTuple (eCons (vP 7) eNil))))) sNil)
    (sSeq (sPar 4 5 (eOw (eLst eNil)) (eFz (vF 3)))
    (sSeq (sWhile (eBl (eOp oGt (vP 5) (ePure (.int 0)))) b__law_row_2 100000)
    (sRet (eCl bTuple (eCons (eUn dRev (eCl bSortA (eCons (vP 4) eNil))) eNil))))))))
def F__law_row : Fn := defOf 9 g__law_row
theorem sc__law_row : FnScope ["dice", "most", "way", "n", "parts", "left", "part", "found", "top"] ["dice", "most"] (defScope s__law_row) := ⟨rfl, rfl, rfl, by decide +kernel, rfl, by decide +kernel, by decide +kernel⟩
theorem ok__law_row {P : Program} {w : World} {K : PySem.W.Frag} {mg : Str → Option Value} {base : Heap} (B : Blt mg) (h : Has K mg "_law_row" "_law_row" s__law_row) (h__law_roll : Kp P w K mg base 1 "_law_roll" 2 F__law_roll) : Kp P w K mg base 2 "_law_row" 2 F__law_row := by
  have nd := sc__law_row.nd
  exact kp_def h sc__law_row rfl rfl (by decide) (fun _ _ _ _ _ _ us hl => match us, hl with | [_, _], _ => rfl) fun _ _ _ _ _ _ _ _ hgd hr tk =>
    dss_cons (d_par nd rfl (DF.sl (df_callK h__law_roll (by decide) hgd hr tk rfl (dfs_cons (df_var (pv 0)) (dfs_cons df_int dfs_nil)) rfl (len_cons (len_cons len_nil)))) (DF.sl (df_callK h__law_roll (by decide) hgd hr tk rfl (dfs_cons (df_var (pv 0)) (dfs_cons (df_bin dop_add (dp_var (pv 1)) (DF.p df_int)) dfs_nil)) rfl (len_cons (len_cons len_nil)))) (by rfl))
    (dss_cons (ds_if (DW.t (dw_and (dt_cmp (dop_eq (ru64 hr)) (dp_var (pv 2)) (DF.p df_int) nb) (dw_and1 (dt_cmp (dop_ogt (ru64 hr)) (dp_var (pv 3)) (DF.p df_int) nb))))
      (dss_cons (d_set nd (df_bin dop_add (DF.p df_int) (DF.p (df_callK h__law_roll (by decide) hgd hr tk rfl (dfs_cons (df_var (pv 0)) (dfs_cons (df_var (pv 3)) dfs_nil)) rfl (len_cons (len_cons len_nil))))))
      (dss_one (ds_ret (df_bin dop_mul (DF.p (df_tup (dfs_cons (df_var (pv 6)) dfs_nil))) (DF.p (df_bin dop_div (dp_var (pv 3)) (dp_var (pv 6))))))))
      (dss_nil))
    (dss_cons (ds_if (dt_cmp (dop_eq (ru64 hr)) (dp_var (pv 2)) (DF.p df_int) nb)
      (dss_cons (d_par nd rfl (DF.sl (DN.f (dn_lst dfs_nil))) (DF.sl df_int) (by rfl))
      (dss_cons (ds_while (n := 100000) (passes_of rfl) (dt_cmp (dop_ole (ru64 hr)) (DF.p (df_bin dop_add (DF.p (df_callB (dcl_sum rfl) rfl B.b_sum bt_sum (dps_cons (dp_var (pv 7)) dps_nil))) (dp_var (pv 8)))) (dp_var (pv 3)) nb)
        (dss_one (d_par nd rfl (DF.sl (DN.f (dn_bin dopn_lAdd (DN.p (dn_lst (dfs_cons (df_var (pv 8)) dfs_nil))) (dp_var (pv 7))))) (DF.sl (df_bin dop_add (dp_var (pv 8)) (DF.p df_int))) (by rfl))))
      (dss_one (ds_ret (df_callTy dcl_tuple rfl B.b_tuple bt_tuple (dps_cons (dp_var (pv 7)) dps_nil))))))
      (dss_nil))
    (dss_cons (d_par nd rfl (DN.sl (dn_lst dfs_nil)) (DF.sl (df_var (pv 3))) (by rfl))
    (dss_cons (ds_while (n := 100000) (passes_of rfl) (dt_cmp (dop_ogt (ru64 hr)) (dp_var (pv 5)) (DF.p df_int) nb)
      (dss_cons (d_set nd (df_bin dop_add (DF.p df_int) (DF.p (df_callK h__law_roll (by decide) hgd hr tk rfl (dfs_cons (df_var (pv 0)) (dfs_cons (df_if (dt_cmp (dop_eq (ru64 hr)) (dp_var (pv 2)) (DF.p df_int) nb) (df_var (pv 5)) (df_callB (dcl_min rfl (ru1 hr)) rfl B.b_min bt_min (dps_cons (dp_var (pv 5)) (dps_cons (DF.p df_int) dps_nil)))) dfs_nil)) rfl (len_cons (len_cons len_nil))))))
      (dss_cons (ds_append (pv 4) (df_var (pv 6)))
      (dss_one (d_set nd (df_bin dop_sub (dp_var (pv 5)) (dp_var (pv 6))))))))
    (dss_one (ds_ret (df_callTy dcl_tuple rfl B.b_tuple bt_tuple (dps_cons (DN.p (dn_rev (DN.p (dn_callB (dcln_sortA rfl (ru hr)) rfl B.b_sorted bt_sorted (dps_cons (dp_var (pv 4)) dps_nil))))) dps_nil))))))))

/-! ### _law_boxes -/
def b__law_boxes_1 : SX := (sChgL 1 hExt (eComp (eRg1 (vF 3)) [4] (gtN 4) (ePure true) (eTup (eCons (vF 2) (eCons (vF 4) eNil)))))
def g__law_boxes : SX := (sSeq (sSetN 1 (eLst eNil))
    (sSeq (sFor (eEnum (vF 0)) (gtTup 2 (gtCons (gtN 2) (gtCons (gtN 3) gtNil))) b__law_boxes_1)
    (sFreeze 1 (sRet (vF 1)))))
def F__law_boxes : Fn := defOf 5 g__law_boxes
theorem sc__law_boxes : FnScope ["row", "found", "i", "part", "j"] ["row"] (defScope s__law_boxes) := ⟨rfl, rfl, rfl, by decide +kernel, rfl, by decide +kernel, by decide +kernel⟩
theorem ok__law_boxes {P : Program} {w : World} {K : PySem.W.Frag} {mg : Str → Option Value} {base : Heap} (B : Blt mg) (h : Has K mg "_law_boxes" "_law_boxes" s__law_boxes)  : Kp P w K mg base 1 "_law_boxes" 1 F__law_boxes := by
  have nd := sc__law_boxes.nd
  exact kp_def h sc__law_boxes rfl rfl (by decide) (fun _ _ _ _ _ _ us hl => match us, hl with | [_], _ => rfl) fun _ _ _ _ _ _ _ _ hgd hr tk =>
    dss_cons (d_setN nd (dn_lst dfs_nil))
    (dss_cons (ds_for (passes_of rfl) rfl (di_enum rfl B.b_enumerate (df_var (pv 0))) (dg_tup rfl (dgs_cons (d_name nd) (dgs_cons (d_name nd) dgs_nil)))
      (dss_one (ds_extend (pv 1) (DN.p (dn_lc rfl nd (DIF.p (di_range1 rfl B.b_range (df_var (pv 3)))) (own := [("j", 4)]) (blkOk_by (by kernel_rfl)) (by decide) (fun _ _ _ _ _ => (d_name nd)) (fun _ _ _ _ _ => dts_nil) (fun _ _ _ _ _ => (df_tup (dfs_cons (df_var (pv 2)) (dfs_cons (df_var (pv 4)) dfs_nil)))))))))
    (dss_freeze 1 (dss_one (ds_ret (df_var (pv 1))))))

/-! ### _law_step -/
def g__law_step : SX := (sSeq (sSet 1 (eOp lAdd (eComp (eSeq (vP 0)) [2] (gtN 2) (ePure true) (eOp dSub (vP 2) (ePure (.int 1)))) (eLst (eCons (eCl bLenS (eCons (vP 0) eNil)) eNil))))
    (sRet (eCl bTuple (eCons (eUn dRev (eCl bSortA (eCons (eComp (eSeq (vP 1)) [2] (gtN 2) (eBl (eOp oGt (vP 2) (ePure (.int 0)))) (vF 2)) eNil))) eNil))))
def F__law_step : Fn := defOf 3 g__law_step
theorem sc__law_step : FnScope ["row", "found", "part"] ["row"] (defScope s__law_step) := ⟨rfl, rfl, rfl, by decide +kernel, rfl, by decide +kernel, by decide +kernel⟩
theorem ok__law_step {P : Program} {w : World} {K : PySem.W.Frag} {mg : Str → Option Value} {base : Heap} (B : Blt mg) (h : Has K mg "_law_step" "_law_step" s__law_step)  : Kp P w K mg base 1 "_law_step" 1 F__law_step := by
  have nd := sc__law_step.nd
  exact kp_def h sc__law_step rfl rfl (by decide) (fun _ _ _ _ _ _ us hl => match us, hl with | [_], _ => rfl) fun _ _ _ _ _ _ _ _ hgd hr tk =>
    dss_cons (d_set nd (DN.f (dn_bin dopn_lAdd (DN.p (dn_lc rfl nd (dip_val (dp_var (pv 0))) (own := [("part", 2)]) (blkOk_by (by kernel_rfl)) (by decide) (fun _ _ _ _ _ => (d_name nd)) (fun _ _ _ _ _ => dts_nil) (fun _ _ _ _ _ => (df_bin dop_sub (dp_var (pv 2)) (DF.p df_int))))) (DN.p (dn_lst (dfs_cons (df_callB dcl_lenS rfl B.b_len bt_len (dps_cons (dp_var (pv 0)) dps_nil)) dfs_nil))))))
    (dss_one (ds_ret (df_callTy dcl_tuple rfl B.b_tuple bt_tuple (dps_cons (DN.p (dn_rev (DN.p (dn_callB (dcln_sortA rfl (ru hr)) rfl B.b_sorted bt_sorted (dps_cons (DN.p (dn_lc rfl nd (dip_val (dp_var (pv 1))) (own := [("part", 2)]) (blkOk_by (by kernel_rfl)) (by decide) (fun _ _ _ _ _ => (d_name nd)) (fun _ _ _ _ _ => (dts_one (dt_cmp (dop_ogt (ru64 hr)) (dp_var (pv 2)) (DF.p df_int) nb))) (fun _ _ _ _ _ => (df_var (pv 2))))) dps_nil))))) dps_nil))))

/-! ### _law_weight -/
def g__law_weight : SX := (sRet (eCl bSum (eCons (eComp (eSeq (eCall F__law_boxes (eCons (vF 0) eNil))) [1, 2] (gtTup 2 (gtCons (gtN 1) (gtCons (gtN 2) gtNil))) (ePure true) (eOp dAdd (vP 1) (vP 2))) eNil)))
def F__law_weight : Fn := defOf 3 g__law_weight
theorem sc__law_weight : FnScope ["row", "i", "j"] ["row"] (defScope s__law_weight) := ⟨rfl, rfl, rfl, by decide +kernel, rfl, by decide +kernel, by decide +kernel⟩
theorem ok__law_weight {P : Program} {w : World} {K : PySem.W.Frag} {mg : Str → Option Value} {base : Heap} (B : Blt mg) (h : Has K mg "_law_weight" "_law_weight" s__law_weight) (h__law_boxes : Kp P w K mg base 1 "_law_boxes" 1 F__law_boxes) : Kp P w K mg base 2 "_law_weight" 1 F__law_weight := by
  have nd := sc__law_weight.nd
  exact kp_def h sc__law_weight rfl rfl (by decide) (fun _ _ _ _ _ _ us hl => match us, hl with | [_], _ => rfl) fun _ _ _ _ _ _ _ _ hgd hr tk =>
    dss_one (ds_ret (df_callB (dcl_sum rfl) rfl B.b_sum bt_sum (dps_cons (DN.p (dn_lc rfl nd (dip_val (DF.p (df_callK h__law_boxes (by decide) hgd hr tk rfl (dfs_cons (df_var (pv 0)) dfs_nil) rfl (len_cons len_nil)))) (own := [("i", 1), ("j", 2)]) (blkOk_by (by kernel_rfl)) (by decide) (fun _ _ _ _ _ => (dg_tup rfl (dgs_cons (d_name nd) (dgs_cons (d_name nd) dgs_nil)))) (fun _ _ _ _ _ => dts_nil) (fun _ _ _ _ _ => (df_bin dop_add (dp_var (pv 1)) (dp_var (pv 2)))))) dps_nil)))

/-! ### _law_right -/
def b__law_right_1 : SX := (sSet 3 (eCall F__law_step (eCons (vF 3) eNil)))
def g__law_right : SX := (sSeq (sPar 1 2 (eFz (eCall F__law_row (eCons (vF 0) (eCons (ePure (.int 40)) eNil)))) (eFz (eCall F__law_roll (eCons (vF 0) (eCons (ePure (.int 30)) eNil)))))
    (sSeq (sIf (eOr (eBl (eOp dNe (eCl bReprA (eCons (eCall F_stepped (eCons (vF 1) eNil)) eNil)) (eCl bReprA (eCons (eCall F__law_step (eCons (vF 1) eNil)) eNil)))) (eBl (eOp oGt (eCall F__law_weight (eCons (eCall F__law_step (eCons (vF 1) eNil)) eNil)) (eCall F__law_weight (eCons (vF 1) eNil))))) (sRet (ePure (.bl false))) sNil)
    (sSeq (sSet 3 (vF 1))
    (sSeq (sFor (eRg1 (vF 2)) (gtN 4) b__law_right_1)
    (sSeq (sIf (eOr (eBl (eOp dNe (eCl bReprA (eCons (eCall F_stepped_often (eCons (vF 1) (eCons (vF 2) eNil))) eNil)) (eCl bReprA (eCons (vP 3) eNil)))) (eBl (eOp dNe (eCall F_stepped_often (eCons (vF 3) (eCons (ePure (.int 0)) eNil))) (vP 3)))) (sRet (ePure (.bl false))) sNil)
    (sSeq (sSet 5 (eIx (eCall F_run_of (eCons (vF 1) eNil)) (ePure (.int 1))))
    (sSeq (sSet 6 (eOp dMul (eCall F__law_roll (eCons (vF 0) (eCons (eOp dPow (ePure (.int 10)) (ePure (.int 12))) eNil))) (eCl bLenS (eCons (vP 5) eNil))))
    (sSeq (sIf (eBl (eOp dNe (eCall F_stepped_often (eCons (eIx (vP 5) (ePure (.int 0))) (eCons (vF 6) eNil))) (eIx (vP 5) (ePure (.int 0))))) (sRet (ePure (.bl false))) sNil)
    (sSeq (sSet 7 (eCall F_ahead_of (eCons (vF 1) eNil)))
    (sSeq (sIf (eBl (eOp dNe (eComp (eSeq (vP 7)) [10] (gtN 10) (eOr (eNotB (eTru (eCall F__law_is_row (eCons (vF 10) eNil)))) (eBl (eOp dNe (eCall F__law_step (eCons (vF 10) eNil)) (vP 1)))) (vF 10)) (eLst eNil))) (sRet (ePure (.bl false))) sNil)
    (sSeq (sSetN 8 (eComp (eSeq (eCall F__law_ascending (eCons (vF 1) eNil))) [9] (gtN 9) (eBl (eOp oGe (vP 9) (eOp dSub (eCl bLenS (eCons (vP 1) eNil)) (ePure (.int 1))))) (vF 9)))
    (sFreeze 8 (sSeq (sIf (eOr (eAnd (eBl (eOp dNe (vP 1) (eTup eNil))) (eBl (eOp dNe (eCl bLenS (eCons (vP 7) eNil)) (eCl bLenS (eCons (vP 8) eNil))))) (eBl (eOp dNe (eCl bReprA (eCons (eCall F_is_begun (eCons (vF 1) eNil)) eNil)) (eCl bReprA (eCons (eD (eBl (eOp dEq (vP 7) (eTup eNil)))) eNil))))) (sRet (ePure (.bl false))) sNil)
    (sRet (eD (eOr (eBl (eOp dEq (vP 1) (eTup eNil))) (eBl (eOp dEq (eD (eBl (eOp dEq (vP 7) (eTup eNil)))) (eD (eBl (eOp oLt (eOp dSub (eIx (vP 1) (ePure (.int 0))) (eCl bLenS (eCons (vP 1) eNil))) (eUn dNeg (ePure (.int 1))))))))))))))))))))))))
def F__law_right : Fn := defOf 11 g__law_right
theorem sc__law_right : FnScope ["dice", "row", "k", "here", "turn", "ring", "far", "ahead", "heaps", "part", "one"] ["dice"] (defScope s__law_right) := ⟨rfl, rfl, rfl, by decide +kernel, rfl, by decide +kernel, by decide +kernel⟩
theorem ok__law_right {P : Program} {w : World} {K : PySem.W.Frag} {mg : Str → Option Value} {base : Heap} (B : Blt mg) (h : Has K mg "_law_right" "_law_right" s__law_right) (h_stepped : Kp P w K mg base 6 "stepped" 1 F_stepped) (h_stepped_often : Kp P w K mg base 6 "stepped_often" 2 F_stepped_often) (h_ahead_of : Kp P w K mg base 6 "ahead_of" 1 F_ahead_of) (h_is_begun : Kp P w K mg base 6 "is_begun" 1 F_is_begun) (h_run_of : Kp P w K mg base 6 "run_of" 1 F_run_of) (h__law_roll : Kp P w K mg base 1 "_law_roll" 2 F__law_roll) (h__law_ascending : Kp P w K mg base 1 "_law_ascending" 1 F__law_ascending) (h__law_is_row : Kp P w K mg base 2 "_law_is_row" 1 F__law_is_row) (h__law_row : Kp P w K mg base 2 "_law_row" 2 F__law_row) (h__law_step : Kp P w K mg base 1 "_law_step" 1 F__law_step) (h__law_weight : Kp P w K mg base 2 "_law_weight" 1 F__law_weight) : Kp P w K mg base 7 "_law_right" 1 F__law_right := by
  have nd := sc__law_right.nd
  exact kp_def h sc__law_right rfl rfl (by decide) (fun _ _ _ _ _ _ us hl => match us, hl with | [_], _ => rfl) fun _ _ _ _ _ _ _ _ hgd hr tk =>
    dss_cons (d_parT nd rfl (DF.sl (df_callK h__law_row (by decide) hgd hr tk rfl (dfs_cons (df_var (pv 0)) (dfs_cons df_int dfs_nil)) rfl (len_cons (len_cons len_nil)))) (DF.sl (df_callK h__law_roll (by decide) hgd hr tk rfl (dfs_cons (df_var (pv 0)) (dfs_cons df_int dfs_nil)) rfl (len_cons (len_cons len_nil)))) (by rfl))
    (dss_cons (ds_if (DW.t (dw_or (dt_cmp (dop_ne (ru64 hr)) (DF.p (df_callB (dcl_reprA (ru hr) hgd) rfl B.b_repr bt_repr (dps_cons (DF.p (df_callK h_stepped (by decide) hgd hr tk rfl (dfs_cons (df_var (pv 1)) dfs_nil) rfl (len_cons len_nil))) dps_nil))) (DF.p (df_callB (dcl_reprA (ru hr) hgd) rfl B.b_repr bt_repr (dps_cons (DF.p (df_callK h__law_step (by decide) hgd hr tk rfl (dfs_cons (df_var (pv 1)) dfs_nil) rfl (len_cons len_nil))) dps_nil))) nb) (dw_or1 (dt_cmp (dop_ogt (ru64 hr)) (DF.p (df_callK h__law_weight (by decide) hgd hr tk rfl (dfs_cons (df_callK h__law_step (by decide) hgd hr tk rfl (dfs_cons (df_var (pv 1)) dfs_nil) rfl (len_cons len_nil)) dfs_nil) rfl (len_cons len_nil))) (DF.p (df_callK h__law_weight (by decide) hgd hr tk rfl (dfs_cons (df_var (pv 1)) dfs_nil) rfl (len_cons len_nil))) nb))))
      (dss_one (ds_ret df_bl))
      (dss_nil))
    (dss_cons (d_set nd (df_var (pv 1)))
    (dss_cons (ds_for (passes_of rfl) rfl (di_range1 rfl B.b_range (df_var (pv 2))) (d_name nd)
      (dss_one (d_set nd (df_callK h__law_step (by decide) hgd hr tk rfl (dfs_cons (df_var (pv 3)) dfs_nil) rfl (len_cons len_nil)))))
    (dss_cons (ds_if (DW.t (dw_or (dt_cmp (dop_ne (ru64 hr)) (DF.p (df_callB (dcl_reprA (ru hr) hgd) rfl B.b_repr bt_repr (dps_cons (DF.p (df_callK h_stepped_often (by decide) hgd hr tk rfl (dfs_cons (df_var (pv 1)) (dfs_cons (df_var (pv 2)) dfs_nil)) rfl (len_cons (len_cons len_nil)))) dps_nil))) (DF.p (df_callB (dcl_reprA (ru hr) hgd) rfl B.b_repr bt_repr (dps_cons (dp_var (pv 3)) dps_nil))) nb) (dw_or1 (dt_cmp (dop_ne (ru64 hr)) (DF.p (df_callK h_stepped_often (by decide) hgd hr tk rfl (dfs_cons (df_var (pv 3)) (dfs_cons df_int dfs_nil)) rfl (len_cons (len_cons len_nil)))) (dp_var (pv 3)) nb))))
      (dss_one (ds_ret df_bl))
      (dss_nil))
    (dss_cons (d_set nd (df_ix (ru1 hr) (DF.p (df_callK h_run_of (by decide) hgd hr tk rfl (dfs_cons (df_var (pv 1)) dfs_nil) rfl (len_cons len_nil))) (DF.p df_int)))
    (dss_cons (d_set nd (df_bin dop_mul (DF.p (df_callK h__law_roll (by decide) hgd hr tk rfl (dfs_cons (df_var (pv 0)) (dfs_cons (df_bin dop_pow (DF.p df_int) (DF.p df_int)) dfs_nil)) rfl (len_cons (len_cons len_nil)))) (DF.p (df_callB dcl_lenS rfl B.b_len bt_len (dps_cons (dp_var (pv 5)) dps_nil)))))
    (dss_cons (ds_if (dt_cmp (dop_ne (ru64 hr)) (DF.p (df_callK h_stepped_often (by decide) hgd hr tk rfl (dfs_cons (df_ix (ru1 hr) (dp_var (pv 5)) (DF.p df_int)) (dfs_cons (df_var (pv 6)) dfs_nil)) rfl (len_cons (len_cons len_nil)))) (DF.p (df_ix (ru1 hr) (dp_var (pv 5)) (DF.p df_int))) nb)
      (dss_one (ds_ret df_bl))
      (dss_nil))
    (dss_cons (d_set nd (df_callK h_ahead_of (by decide) hgd hr tk rfl (dfs_cons (df_var (pv 1)) dfs_nil) rfl (len_cons len_nil)))
    (dss_cons (ds_if (dt_cmp (dop_ne (ru64 hr)) (DN.p (dn_lc rfl nd (dip_val (dp_var (pv 7))) (own := [("one", 10)]) (blkOk_by (by kernel_rfl)) (by decide) (fun _ _ _ _ _ => (d_name nd)) (fun _ _ _ _ _ => (dts_one (DW.t (dw_or (dt_not (dt_tru (DF.p (df_callK h__law_is_row (by decide) hgd hr tk_blk rfl (dfs_cons (df_var (pv 10)) dfs_nil) rfl (len_cons len_nil))))) (dw_or1 (dt_cmp (dop_ne (ru64 hr)) (DF.p (df_callK h__law_step (by decide) hgd hr tk_blk rfl (dfs_cons (df_var (pv 10)) dfs_nil) rfl (len_cons len_nil))) (dp_var (pv 1)) nb)))))) (fun _ _ _ _ _ => (df_var (pv 10))))) (DN.p (dn_lst dfs_nil)) nb)
      (dss_one (ds_ret df_bl))
      (dss_nil))
    (dss_cons (d_setLc nd rfl (sw_true rfl rfl rfl (by decide +kernel)) (dip_val (DF.p (df_callK h__law_ascending (by decide) hgd hr tk rfl (dfs_cons (df_var (pv 1)) dfs_nil) rfl (len_cons len_nil)))) (own := [("part", 9)]) (blkOk_by (by kernel_rfl)) (by decide) (fun _ _ _ _ _ => (d_name nd)) (fun _ _ _ _ _ => (dts_one (dt_cmp (dop_oge (ru64 hr)) (dp_var (pv 9)) (DF.p (df_bin dop_sub (DF.p (df_callB dcl_lenS rfl B.b_len bt_len (dps_cons (dp_var (pv 1)) dps_nil))) (DF.p df_int))) nb))) (fun _ _ _ _ _ => (df_var (pv 9))))
    (dss_freeze 8 (dss_cons (ds_if (DW.t (dw_or (DW.t (dw_and (dt_cmp (dop_ne (ru64 hr)) (dp_var (pv 1)) (DF.p (df_tup dfs_nil)) nb) (dw_and1 (dt_cmp (dop_ne (ru64 hr)) (DF.p (df_callB dcl_lenS rfl B.b_len bt_len (dps_cons (dp_var (pv 7)) dps_nil))) (DF.p (df_callB dcl_lenS rfl B.b_len bt_len (dps_cons (dp_var (pv 8)) dps_nil))) nb)))) (dw_or1 (dt_cmp (dop_ne (ru64 hr)) (DF.p (df_callB (dcl_reprA (ru hr) hgd) rfl B.b_repr bt_repr (dps_cons (DF.p (df_callK h_is_begun (by decide) hgd hr tk rfl (dfs_cons (df_var (pv 1)) dfs_nil) rfl (len_cons len_nil))) dps_nil))) (DF.p (df_callB (dcl_reprA (ru hr) hgd) rfl B.b_repr bt_repr (dps_cons (DF.p (DB.df (db_of (df_cmp (dop_eq (ru64 hr)) (dp_var (pv 7)) (DF.p (df_tup dfs_nil)) nb)))) dps_nil))) nb))))
      (dss_one (ds_ret df_bl))
      (dss_nil))
    (dss_one (ds_ret (DB.df (db_or (db_of (df_cmp (dop_eq (ru64 hr)) (dp_var (pv 1)) (DF.p (df_tup dfs_nil)) nb)) (db_one (db_of (df_cmp (dop_eq (ru64 hr)) (DF.p (DB.df (db_of (df_cmp (dop_eq (ru64 hr)) (dp_var (pv 7)) (DF.p (df_tup dfs_nil)) nb)))) (DF.p (DB.df (db_of (df_cmp (dop_olt (ru64 hr)) (DF.p (df_bin dop_sub (DF.p (df_ix (ru1 hr) (dp_var (pv 1)) (DF.p df_int))) (DF.p (df_callB dcl_lenS rfl B.b_len bt_len (dps_cons (dp_var (pv 1)) dps_nil))))) (DF.p (df_neg (DF.p df_int))) nb)))) nb)))))))))))))))))))

/-! ### _law_all_right -/
def g__law_all_right : SX := (sSeq (sSet 1 (eCall F__law_roll (eCons (vF 0) (eCons (ePure (.int 12)) eNil))))
    (sSeq (sSet 2 (eCall F__law_rows (eCons (vF 1) eNil)))
    (sSeq (sSet 3 (eCall F__law_pick (eCons (vF 0) (eCons (vF 2) eNil))))
    (sSeq (sIf (eBl (eOp dNe (eCl bReprA (eCons (eCall F_ahead_of (eCons (vF 3) eNil)) eNil)) (eCl bReprA (eCons (eCl bTuple (eCons (eComp (eSeq (vP 2)) [6] (gtN 6) (eBl (eOp dEq (eCall F__law_step (eCons (vF 6) eNil)) (vP 3))) (vF 6)) eNil)) eNil)))) (sRet (ePure (.bl false))) sNil)
    (sSeq (sSet 4 (eComp (eSeq (vP 2)) [6] (gtN 6) (ePure true) (eCall F__law_step (eCons (vF 6) eNil))))
    (sSeq (sSetN 5 (eComp (eSeq (vP 2)) [6] (gtN 6) (eNotIn (vP 6) (vP 4)) (vF 6)))
    (sFreeze 5 (sSeq (sIf (eBl (eOp dNe (eCl bReprA (eCons (eLst (eCons (eCall F_begun_rows (eCons (vF 1) eNil)) (eCons (eCall F_count_begun (eCons (vF 1) eNil)) eNil))) eNil)) (eCl bReprA (eCons (eLst (eCons (eCl bTuple (eCons (vP 5) eNil)) (eCons (eCl bLenS (eCons (vP 5) eNil)) eNil))) eNil)))) (sRet (ePure (.bl false))) sNil)
    (sRet (eD (eBl (eOp dEq (eCl bLenS (eCons (vP 5) eNil)) (eCl bLenS (eCons (eComp (eSeq (vP 2)) [6] (gtN 6) (eAnd (eBl (eOp dNe (vP 6) (eTup eNil))) (eBl (eOp oGt (eOp dSub (eIx (vP 6) (ePure (.int 0))) (eCl bLenS (eCons (vP 6) eNil))) (ePure (.int 1))))) (vF 6)) eNil))))))))))))))
def F__law_all_right : Fn := defOf 7 g__law_all_right
theorem sc__law_all_right : FnScope ["dice", "n", "every", "row", "led", "due", "one"] ["dice"] (defScope s__law_all_right) := ⟨rfl, rfl, rfl, by decide +kernel, rfl, by decide +kernel, by decide +kernel⟩
theorem ok__law_all_right {P : Program} {w : World} {K : PySem.W.Frag} {mg : Str → Option Value} {base : Heap} (B : Blt mg) (h : Has K mg "_law_all_right" "_law_all_right" s__law_all_right) (h_ahead_of : Kp P w K mg base 6 "ahead_of" 1 F_ahead_of) (h_begun_rows : Kp P w K mg base 5 "begun_rows" 1 F_begun_rows) (h_count_begun : Kp P w K mg base 5 "count_begun" 1 F_count_begun) (h__law_roll : Kp P w K mg base 1 "_law_roll" 2 F__law_roll) (h__law_pick : Kp P w K mg base 2 "_law_pick" 2 F__law_pick) (h__law_rows : Kp P w K mg base 1 "_law_rows" 1 F__law_rows) (h__law_step : Kp P w K mg base 1 "_law_step" 1 F__law_step) : Kp P w K mg base 7 "_law_all_right" 1 F__law_all_right := by
  have nd := sc__law_all_right.nd
  exact kp_def h sc__law_all_right rfl rfl (by decide) (fun _ _ _ _ _ _ us hl => match us, hl with | [_], _ => rfl) fun _ _ _ _ _ _ _ _ hgd hr tk =>
    dss_cons (d_set nd (df_callK h__law_roll (by decide) hgd hr tk rfl (dfs_cons (df_var (pv 0)) (dfs_cons df_int dfs_nil)) rfl (len_cons (len_cons len_nil))))
    (dss_cons (d_set nd (df_callK h__law_rows (by decide) hgd hr tk rfl (dfs_cons (df_var (pv 1)) dfs_nil) rfl (len_cons len_nil)))
    (dss_cons (d_set nd (df_callK h__law_pick (by decide) hgd hr tk rfl (dfs_cons (df_var (pv 0)) (dfs_cons (df_var (pv 2)) dfs_nil)) rfl (len_cons (len_cons len_nil))))
    (dss_cons (ds_if (dt_cmp (dop_ne (ru64 hr)) (DF.p (df_callB (dcl_reprA (ru hr) hgd) rfl B.b_repr bt_repr (dps_cons (DF.p (df_callK h_ahead_of (by decide) hgd hr tk rfl (dfs_cons (df_var (pv 3)) dfs_nil) rfl (len_cons len_nil))) dps_nil))) (DF.p (df_callB (dcl_reprA (ru hr) hgd) rfl B.b_repr bt_repr (dps_cons (DF.p (df_callTy dcl_tuple rfl B.b_tuple bt_tuple (dps_cons (DN.p (dn_lc rfl nd (dip_val (dp_var (pv 2))) (own := [("one", 6)]) (blkOk_by (by kernel_rfl)) (by decide) (fun _ _ _ _ _ => (d_name nd)) (fun _ _ _ _ _ => (dts_one (dt_cmp (dop_eq (ru64 hr)) (DF.p (df_callK h__law_step (by decide) hgd hr tk_blk rfl (dfs_cons (df_var (pv 6)) dfs_nil) rfl (len_cons len_nil))) (dp_var (pv 3)) nb))) (fun _ _ _ _ _ => (df_var (pv 6))))) dps_nil))) dps_nil))) nb)
      (dss_one (ds_ret df_bl))
      (dss_nil))
    (dss_cons (d_set nd (DN.f (dn_lc rfl nd (dip_val (dp_var (pv 2))) (own := [("one", 6)]) (blkOk_by (by kernel_rfl)) (by decide) (fun _ _ _ _ _ => (d_name nd)) (fun _ _ _ _ _ => dts_nil) (fun _ _ _ _ _ => (df_callK h__law_step (by decide) hgd hr tk_blk rfl (dfs_cons (df_var (pv 6)) dfs_nil) rfl (len_cons len_nil))))))
    (dss_cons (d_setLc nd rfl (sw_true rfl rfl rfl (by decide +kernel)) (dip_val (dp_var (pv 2))) (own := [("one", 6)]) (blkOk_by (by kernel_rfl)) (by decide) (fun _ _ _ _ _ => (d_name nd)) (fun _ _ _ _ _ => (dts_one (dt_notIn (ru65 hr) (dp_var (pv 6)) (dp_var (pv 4)) (by with_unfolding_all rfl)))) (fun _ _ _ _ _ => (df_var (pv 6))))
    (dss_freeze 5 (dss_cons (ds_if (dt_cmp (dop_ne (ru64 hr)) (DF.p (df_callB (dcl_reprA (ru hr) hgd) rfl B.b_repr bt_repr (dps_cons (DN.p (dn_lst (dfs_cons (df_callK h_begun_rows (by decide) hgd hr tk rfl (dfs_cons (df_var (pv 1)) dfs_nil) rfl (len_cons len_nil)) (dfs_cons (df_callK h_count_begun (by decide) hgd hr tk rfl (dfs_cons (df_var (pv 1)) dfs_nil) rfl (len_cons len_nil)) dfs_nil)))) dps_nil))) (DF.p (df_callB (dcl_reprA (ru hr) hgd) rfl B.b_repr bt_repr (dps_cons (DN.p (dn_lst (dfs_cons (df_callTy dcl_tuple rfl B.b_tuple bt_tuple (dps_cons (dp_var (pv 5)) dps_nil)) (dfs_cons (df_callB dcl_lenS rfl B.b_len bt_len (dps_cons (dp_var (pv 5)) dps_nil)) dfs_nil)))) dps_nil))) nb)
      (dss_one (ds_ret df_bl))
      (dss_nil))
    (dss_one (ds_ret (DB.df (db_of (df_cmp (dop_eq (ru64 hr)) (DF.p (df_callB dcl_lenS rfl B.b_len bt_len (dps_cons (dp_var (pv 5)) dps_nil))) (DF.p (df_callB dcl_lenS rfl B.b_len bt_len (dps_cons (DN.p (dn_lc rfl nd (dip_val (dp_var (pv 2))) (own := [("one", 6)]) (blkOk_by (by kernel_rfl)) (by decide) (fun _ _ _ _ _ => (d_name nd)) (fun _ _ _ _ _ => (dts_one (DW.t (dw_and (dt_cmp (dop_ne (ru64 hr)) (dp_var (pv 6)) (DF.p (df_tup dfs_nil)) nb) (dw_and1 (dt_cmp (dop_ogt (ru64 hr)) (DF.p (df_bin dop_sub (DF.p (df_ix (ru1 hr) (dp_var (pv 6)) (DF.p df_int))) (DF.p (df_callB dcl_lenS rfl B.b_len bt_len (dps_cons (dp_var (pv 6)) dps_nil))))) (DF.p df_int) nb)))))) (fun _ _ _ _ _ => (df_var (pv 6))))) dps_nil))) nb))))))))))))

/-! ### law -/
def b_law_1 : SX := (sIf (eOr (eNotB (eTru (eCall F__law_right (eCons (vF 4) eNil)))) (eNotB (eTru (eCall F__law_all_right (eCons (vF 4) eNil))))) (sRet (ePure (.bl false))) sNil)
def b_law_2 : SX := (sSeq (sSet 4 (eCall F__law_dice (eCons (vF 0) (eCons (vF 1) eNil))))
    (sFor (eRg1 (ePure (.int 4))) (gtN 5) b_law_1))
def g_law : SX := (sSeq (sFor (eRg1 (eCl bMax (eCons (ePure (.int 1)) (eCons (eCl bMin (eCons (ePure (.int 5)) (eCons (eCl bLenS (eCons (vP 0) eNil)) eNil))) eNil)))) (gtN 1) b_law_2)
    (sSeq (sSet 2 (eLst (eCons (eCall F_stepped (eCons (eTup (eCons (ePure (.int 4)) (eCons (ePure (.int 2)) (eCons (ePure (.int 1)) eNil)))) eNil)) (eCons (eCall F_stepped (eCons (eTup (eCons (ePure (.int 1)) (eCons (ePure (.int 1)) (eCons (ePure (.int 1)) eNil)))) eNil)) (eCons (eCall F_ahead_of (eCons (eTup (eCons (ePure (.int 3)) (eCons (ePure (.int 1)) eNil))) eNil)) (eCons (eCall F_ahead_of (eCons (eTup (eCons (ePure (.int 1)) (eCons (ePure (.int 1)) (eCons (ePure (.int 1)) eNil)))) eNil)) (eCons (eCall F_is_begun (eCons (eTup (eCons (ePure (.int 1)) (eCons (ePure (.int 1)) (eCons (ePure (.int 1)) eNil)))) eNil)) eNil)))))))
    (sSeq (sSet 2 (eOp lAdd (vP 2) (eLst (eCons (eCall F_stepped_often (eCons (eTup (eCons (ePure (.int 5)) eNil)) (eCons (ePure (.int 2)) eNil))) (eCons (eCall F_begun_rows (eCons (ePure (.int 4)) eNil)) (eCons (eCall F_count_begun (eCons (ePure (.int 5)) eNil)) (eCons (eCall F_stepped (eCons (eTup eNil) eNil)) (eCons (eCall F_ahead_of (eCons (eTup eNil) eNil)) (eCons (eCall F_is_begun (eCons (eTup eNil) eNil)) eNil)))))))))
    (sSeq (sSet 3 (eLst (eCons (eTup (eCons (ePure (.int 3)) (eCons (ePure (.int 3)) (eCons (ePure (.int 1)) eNil)))) (eCons (eTup (eCons (ePure (.int 3)) eNil)) (eCons (eTup (eCons (eTup (eCons (ePure (.int 2)) (eCons (ePure (.int 1)) (eCons (ePure (.int 1)) eNil)))) (eCons (eTup (eCons (ePure (.int 4)) eNil)) eNil))) (eCons (eTup eNil) (eCons (ePure (.bl true)) (eCons (eTup (eCons (ePure (.int 3)) (eCons (ePure (.int 2)) eNil))) (eCons (eTup (eCons (eTup (eCons (ePure (.int 1)) (eCons (ePure (.int 1)) (eCons (ePure (.int 1)) (eCons (ePure (.int 1)) eNil))))) eNil)) (eCons (ePure (.int 2)) (eCons (eTup eNil) (eCons (eTup (eCons (eTup eNil) eNil)) (eCons (ePure (.bl false)) eNil)))))))))))))
    (sRet (eD (eAnd (eBl (eOp dEqA (vP 2) (vP 3))) (eBl (eOp dEq (eCall F_stepped_often (eCons (eTup (eCons (ePure (.int 3)) eNil)) (eCons (eOp dPow (ePure (.int 10)) (ePure (.int 59))) eNil))) (eTup (eCons (ePure (.int 2)) (eCons (ePure (.int 1)) eNil))))))))))))
def F_law : Fn := defOf 6 g_law
theorem sc_law : FnScope ["script", "spot", "told", "due", "dice", "turn"] ["script"] (defScope s_law) := ⟨rfl, rfl, rfl, by decide +kernel, rfl, by decide +kernel, by decide +kernel⟩
theorem ok_law {P : Program} {w : World} {K : PySem.W.Frag} {mg : Str → Option Value} {base : Heap} (B : Blt mg) (h : Has K mg "law" "law" s_law) (h_stepped : Kp P w K mg base 6 "stepped" 1 F_stepped) (h_stepped_often : Kp P w K mg base 6 "stepped_often" 2 F_stepped_often) (h_ahead_of : Kp P w K mg base 6 "ahead_of" 1 F_ahead_of) (h_is_begun : Kp P w K mg base 6 "is_begun" 1 F_is_begun) (h_begun_rows : Kp P w K mg base 5 "begun_rows" 1 F_begun_rows) (h_count_begun : Kp P w K mg base 5 "count_begun" 1 F_count_begun) (h__law_dice : Kp P w K mg base 1 "_law_dice" 2 F__law_dice) (h__law_right : Kp P w K mg base 7 "_law_right" 1 F__law_right) (h__law_all_right : Kp P w K mg base 7 "_law_all_right" 1 F__law_all_right) : Kp P w K mg base 8 "law" 1 F_law := by
  have nd := sc_law.nd
  exact kp_def h sc_law rfl rfl (by decide) (fun _ _ _ _ _ _ us hl => match us, hl with | [_], _ => rfl) fun _ _ _ _ _ _ _ _ hgd hr tk =>
    dss_cons (ds_for (passes_of rfl) rfl (di_range1 rfl B.b_range (df_callB (dcl_max rfl (ru1 hr)) rfl B.b_max bt_max (dps_cons (DF.p df_int) (dps_cons (DF.p (df_callB (dcl_min rfl (ru1 hr)) rfl B.b_min bt_min (dps_cons (DF.p df_int) (dps_cons (DF.p (df_callB dcl_lenS rfl B.b_len bt_len (dps_cons (dp_var (pv 0)) dps_nil))) dps_nil)))) dps_nil)))) (d_name nd)
      (dss_cons (d_set nd (df_callK h__law_dice (by decide) hgd hr tk rfl (dfs_cons (df_var (pv 0)) (dfs_cons (df_var (pv 1)) dfs_nil)) rfl (len_cons (len_cons len_nil))))
      (dss_one (ds_for (passes_of rfl) rfl (di_range1 rfl B.b_range df_int) (d_name nd)
        (dss_one (ds_if (DW.t (dw_or (dt_not (dt_tru (DF.p (df_callK h__law_right (by decide) hgd hr tk rfl (dfs_cons (df_var (pv 4)) dfs_nil) rfl (len_cons len_nil))))) (dw_or1 (dt_not (dt_tru (DF.p (df_callK h__law_all_right (by decide) hgd hr tk rfl (dfs_cons (df_var (pv 4)) dfs_nil) rfl (len_cons len_nil))))))))
          (dss_one (ds_ret df_bl))
          (dss_nil)))))))
    (dss_cons (d_set nd (DN.f (dn_lst (dfs_cons (df_callK h_stepped (by decide) hgd hr tk rfl (dfs_cons (df_tup (dfs_cons df_int (dfs_cons df_int (dfs_cons df_int dfs_nil)))) dfs_nil) rfl (len_cons len_nil)) (dfs_cons (df_callK h_stepped (by decide) hgd hr tk rfl (dfs_cons (df_tup (dfs_cons df_int (dfs_cons df_int (dfs_cons df_int dfs_nil)))) dfs_nil) rfl (len_cons len_nil)) (dfs_cons (df_callK h_ahead_of (by decide) hgd hr tk rfl (dfs_cons (df_tup (dfs_cons df_int (dfs_cons df_int dfs_nil))) dfs_nil) rfl (len_cons len_nil)) (dfs_cons (df_callK h_ahead_of (by decide) hgd hr tk rfl (dfs_cons (df_tup (dfs_cons df_int (dfs_cons df_int (dfs_cons df_int dfs_nil)))) dfs_nil) rfl (len_cons len_nil)) (dfs_cons (df_callK h_is_begun (by decide) hgd hr tk rfl (dfs_cons (df_tup (dfs_cons df_int (dfs_cons df_int (dfs_cons df_int dfs_nil)))) dfs_nil) rfl (len_cons len_nil)) dfs_nil))))))))
    (dss_cons (d_set nd (DN.f (dn_bin dopn_lAdd (dp_var (pv 2)) (DN.p (dn_lst (dfs_cons (df_callK h_stepped_often (by decide) hgd hr tk rfl (dfs_cons (df_tup (dfs_cons df_int dfs_nil)) (dfs_cons df_int dfs_nil)) rfl (len_cons (len_cons len_nil))) (dfs_cons (df_callK h_begun_rows (by decide) hgd hr tk rfl (dfs_cons df_int dfs_nil) rfl (len_cons len_nil)) (dfs_cons (df_callK h_count_begun (by decide) hgd hr tk rfl (dfs_cons df_int dfs_nil) rfl (len_cons len_nil)) (dfs_cons (df_callK h_stepped (by decide) hgd hr tk rfl (dfs_cons (df_tup dfs_nil) dfs_nil) rfl (len_cons len_nil)) (dfs_cons (df_callK h_ahead_of (by decide) hgd hr tk rfl (dfs_cons (df_tup dfs_nil) dfs_nil) rfl (len_cons len_nil)) (dfs_cons (df_callK h_is_begun (by decide) hgd hr tk rfl (dfs_cons (df_tup dfs_nil) dfs_nil) rfl (len_cons len_nil)) dfs_nil)))))))))))
    (dss_cons (d_set nd (DN.f (dn_lst (dfs_cons (df_tup (dfs_cons df_int (dfs_cons df_int (dfs_cons df_int dfs_nil)))) (dfs_cons (df_tup (dfs_cons df_int dfs_nil)) (dfs_cons (df_tup (dfs_cons (df_tup (dfs_cons df_int (dfs_cons df_int (dfs_cons df_int dfs_nil)))) (dfs_cons (df_tup (dfs_cons df_int dfs_nil)) dfs_nil))) (dfs_cons (df_tup dfs_nil) (dfs_cons df_bl (dfs_cons (df_tup (dfs_cons df_int (dfs_cons df_int dfs_nil))) (dfs_cons (df_tup (dfs_cons (df_tup (dfs_cons df_int (dfs_cons df_int (dfs_cons df_int (dfs_cons df_int dfs_nil))))) dfs_nil)) (dfs_cons df_int (dfs_cons (df_tup dfs_nil) (dfs_cons (df_tup (dfs_cons (df_tup dfs_nil) dfs_nil)) (dfs_cons df_bl dfs_nil))))))))))))))
    (dss_one (ds_ret (DB.df (db_and (db_of (df_cmp (dop_eqA (ru64 hr)) (dp_var (pv 2)) (dp_var (pv 3)) nb)) (db_one (db_of (df_cmp (dop_eq (ru64 hr)) (DF.p (df_callK h_stepped_often (by decide) hgd hr tk rfl (dfs_cons (df_tup (dfs_cons df_int dfs_nil)) (dfs_cons (df_bin dop_pow (DF.p df_int) (DF.p df_int)) dfs_nil)) rfl (len_cons (len_cons len_nil)))) (DF.p (df_tup (dfs_cons df_int (dfs_cons df_int dfs_nil)))) nb))))))))))
end LW

set_option Elab.async false
set_option linter.all false
set_option maxRecDepth 100000
set_option maxHeartbeats 4000000
namespace LW
open PySem DL

theorem f_is_whole (i : Int) (w : Wd) : F_is_whole [.int i] w = .ok (.bl true) w := by rfl
theorem f_is_near (i : Int) (w : Wd) (h : -1000000000000000000000000000000000000000000000000000000000000 < i ∧ i < 1000000000000000000000000000000000000000000000000000000000000) : F_is_near [.int i] w = .ok (.bl true) w := by
  refine defOf_ret ?_
  unfold g_is_near
  simp [sRet, sRetN, sSet, sSetN, sSetS, sPar, sPar3, sTgt, sIf, sDrop, sStuck, sBrk, sCnt, sNil, sFreeze, frzAt, sSeq, SO.seq, R.on, sPut, sPutAt, known, putD, sChgL, hApp, hExt, sAugN, sPop, eFz, eOw, eD, eAnd, eOr, eNotB, eIf, eBind, M.bind, eBl, eTru, eCall, eCl, eCons, eNil, eApp, vF, vP, startE, ePure, toB, M.ofOption, M.pure, eChain, eUn, dNeg, eOp, eTup, eLst, eSeq, eOpt, eSl, eIx, dIx, dIxS, seqD, gtN, gtTup, gtCons, gtNil, eItv, iterD, eRg1, eRg2, rg1, rg2, eZip, both, eEnum, eIn, eNotIn, wipeE, f_is_whole, oLt, dLt, h.1, h.2]
theorem f_is_within (i a b : Int) (w : Wd) : F_is_within [.int i, .int a, .int b] w = .ok (.bl (decide (a ≤ i) && decide (i ≤ b))) w := by
  refine defOf_ret ?_
  unfold g_is_within
  by_cases h1 : a ≤ i <;> by_cases h2 : i ≤ b <;>
  simp [sRet, sRetN, sSet, sSetN, sSetS, sPar, sPar3, sTgt, sIf, sDrop, sStuck, sBrk, sCnt, sNil, sFreeze, frzAt, sSeq, SO.seq, R.on, sPut, sPutAt, known, putD, sChgL, hApp, hExt, sAugN, sPop, eFz, eOw, eD, eAnd, eOr, eNotB, eIf, eBind, M.bind, eBl, eTru, eCall, eCl, eCons, eNil, eApp, vF, vP, startE, ePure, toB, M.ofOption, M.pure, eChain, eUn, dNeg, eOp, eTup, eLst, eSeq, eOpt, eSl, eIx, dIx, dIxS, seqD, gtN, gtTup, gtCons, gtNil, eItv, iterD, eRg1, eRg2, rg1, rg2, eZip, both, eEnum, eIn, eNotIn, wipeE, f_is_whole, oLe, dLe, h1, h2]
/-- the dice at n -/
def Dice (w : Wd) (n : Nat) : Prop := ∃ a b c : Int, w[n]? = some [.int a, .int b, .int c] ∧ 0 ≤ a
theorem f_roll (w : Wd) (n : Nat) (t : Int) (h : Dice w n) (h0 : 0 < t) (h1 : t.natAbs.log2 < 9000) : ∃ (r : Int) (w' : Wd), F__law_roll [.cell n, .int t] w = .ok (.int r) w' ∧ 0 ≤ r ∧ r < t ∧ Dice w' n := by
  obtain ⟨a, b, c, hw, ha⟩ := h
  by_cases hp : 0 < a
  · refine ⟨a % t, w.set n [.int (a / t), .int b, .int c], ?_, Int.emod_nonneg _ (by omega), Int.emod_lt_of_pos _ h0, ⟨a / t, b, c, ?_, Int.ediv_nonneg ha (by omega)⟩⟩
    · refine defOf_ret ?_
      unfold g__law_roll
      simp [sRet, sRetN, sSet, sSetN, sSetS, sPar, sPar3, sTgt, sIf, sDrop, sStuck, sBrk, sCnt, sNil, sFreeze, frzAt, sSeq, SO.seq, R.on, sPut, sPutAt, known, putD, sChgL, hApp, hExt, sAugN, sPop, eFz, eOw, eD, eAnd, eOr, eNotB, eIf, eBind, M.bind, eBl, eTru, eCall, eCl, eCons, eNil, eApp, vF, vP, startE, ePure, toB, M.ofOption, M.pure, eChain, eUn, dNeg, eOp, eTup, eLst, eSeq, eOpt, eSl, eIx, dIx, dIxS, seqD, gtN, gtTup, gtCons, gtNil, eItv, iterD, eRg1, eRg2, rg1, rg2, eZip, both, eEnum, eIn, eNotIn, wipeE, hw, oGt, dGt, hp, bInt, dMod, h0, dDiv, h1, L2.atI, L2.ixN]
    · rw [List.getElem?_set_self (List.getElem?_eq_some_iff.mp hw).1]
  · have ha0 : a = 0 := by omega
    subst ha0
    have hl : n < w.length := (List.getElem?_eq_some_iff.mp hw).1
    have hs : ∀ x : List D, (w.set n x)[n]? = some x := fun x => List.getElem?_set_self hl
    have o1 : 0 ≤ ((b + 15486209 * (c + 1)) % 2305843009213693951) := Int.emod_nonneg _ (by decide)
    have o2 : ((b + 15486209 * (c + 1)) % 2305843009213693951) < 2305843009213693951 := Int.emod_lt_of_pos _ (by decide)
    have m1 : cMul 15486209 (c + 1) = true := cMul_l ⟨by decide, by decide⟩
    have m2 : cMul ((b + 15486209 * (c + 1)) % 2305843009213693951) ((b + 15486209 * (c + 1)) % 2305843009213693951) = true := cMul_l ⟨by omega, by omega⟩
    have m3 : cMul 199 (c + 1) = true := cMul_l ⟨by decide, by decide⟩
    have m4 : cMul ((((b + 15486209 * (c + 1)) % 2305843009213693951) * ((b + 15486209 * (c + 1)) % 2305843009213693951) + 199 * (c + 1)) % 2305843009213693907) 7368751 = true := cMul_r ⟨by decide, by decide⟩
    clear o1 o2
    refine ⟨((((b + 15486209 * (c + 1)) % 2305843009213693951) * ((b + 15486209 * (c + 1)) % 2305843009213693951) + 199 * (c + 1)) % 2305843009213693907 * 7368751 + ((b + 15486209 * (c + 1)) % 2305843009213693951)) / 65536 % t, w.set n [.int 0, .int b, .int (c + 1)], ?_, Int.emod_nonneg _ (by omega), Int.emod_lt_of_pos _ h0, ⟨0, b, c + 1, hs _, Int.le_refl _⟩⟩
    refine defOf_ret ?_
    unfold g__law_roll
    have l9 : Nat.log2 65536 < 9000 := by decide
    simp [sRet, sRetN, sSet, sSetN, sSetS, sPar, sPar3, sTgt, sIf, sDrop, sStuck, sBrk, sCnt, sNil, sFreeze, frzAt, sSeq, SO.seq, R.on, sPut, sPutAt, known, putD, sChgL, hApp, hExt, sAugN, sPop, eFz, eOw, eD, eAnd, eOr, eNotB, eIf, eBind, M.bind, eBl, eTru, eCall, eCl, eCons, eNil, eApp, vF, vP, startE, ePure, toB, M.ofOption, M.pure, eChain, eUn, dNeg, eOp, eTup, eLst, eSeq, eOpt, eSl, eIx, dIx, dIxS, seqD, gtN, gtTup, gtCons, gtNil, eItv, iterD, eRg1, eRg2, rg1, rg2, eZip, both, eEnum, eIn, eNotIn, wipeE, hw, hs, oGt, dGt, bInt, dMod, h0, dDiv, h1, L2.atI, L2.ixN, dAdd, dMul, m1, m2, m3, m4, l9]
theorem le_sum : ∀ {r : List Nat} {p : Nat}, p ∈ r → p ≤ r.sum
  | q :: r, p, h => by
    rw [List.sum_cons]
    rcases List.mem_cons.mp h with h | h
    · omega
    · have := le_sum h; omega
structure Row (n : Nat) (r : List Nat) : Prop where
  fall : Falling r
  pos : ∀ p ∈ r, 1 ≤ p
  sum : r.sum = n
theorem Row.le {n : Nat} {r : List Nat} (h : Row n r) : ∀ p ∈ r, p ≤ n := fun p hp => by
  rw [← h.sum]; exact le_sum hp
theorem len_le_sum : ∀ {r : List Nat}, (∀ p ∈ r, 1 ≤ p) → r.length ≤ r.sum
  | [], _ => Nat.le_refl _
  | p :: r, h => by
    have := len_le_sum (r := r) fun q hq => h q (List.mem_cons_of_mem _ hq)
    have := h p (List.mem_cons_self ..)
    simp only [List.length_cons, List.sum_cons]; omega
theorem Row.len {n : Nat} {r : List Nat} (h : Row n r) : r.length ≤ n := by rw [← h.sum]; exact len_le_sum h.pos
theorem sizeL : sizeLine = 16777216 := PySem.sizeLine_eq
theorem seqD_row (r : List Nat) : seqD (rowD r) = some (natsD r) := rfl
theorem filt_true {α : Type} (xs : List α) : (xs.filter fun _ => true) = xs := by simp
theorem natsD_drop (r : List Nat) (k : Nat) : (natsD r).drop k = natsD (r.drop k) := by simp [natsD]
theorem sl_row1 (r : List Nat) : dSl (rowD r) (some 1) none = some (rowD (r.drop 1)) := by
  have h : HT.sIx (natsD r).length 0 (some ((1 : Nat) : Int)) = min 1 (natsD r).length := HT.sIx_nat _ _ _
  have e : cutD (natsD r) (some 1) none = natsD (r.drop 1) := by
    unfold cutD
    rw [HT.sIx_none]
    have h : HT.sIx (natsD r).length 0 (some 1) = min 1 (natsD r).length := h
    rw [h]
    cases r with
    | nil => rfl
    | cons a b =>
      have : min 1 (natsD (a :: b)).length = 1 := by simp
      rw [this, natsD_drop, List.take_of_length_le (by simp)]
  unfold dSl dSlT rowD
  dsimp only
  have e : cutD (List.map (fun n => D.int (n : Nat)) r) (some 1) none = List.map (fun n => D.int (n : Nat)) (r.drop 1) := e
  rw [e]; rfl
theorem zip_rows (r s : List Nat) : zipD (natsD r) (natsD s) = (r.zip s).map fun p => D.ftp [.int (p.1 : Nat), .int (p.2 : Nat)] := by
  unfold zipD natsD
  rw [List.zip_map, List.map_map]
  rfl
theorem falling_zip : ∀ {r : List Nat}, Falling r → ∀ p ∈ r.zip (r.drop 1), p.2 ≤ p.1
  | [], _, p, hp => by simp at hp
  | [a], _, p, hp => by simp at hp
  | a :: b :: r, h, p, hp => by
    rw [List.drop_one, List.tail_cons, List.zip_cons_cons] at hp
    rcases List.mem_cons.mp hp with rfl | hp
    · exact (List.pairwise_cons.mp h).1 b (List.mem_cons_self ..)
    · exact falling_zip (r := b :: r) (List.pairwise_cons.mp h).2 p (by rw [List.drop_one, List.tail_cons]; exact hp)
theorem blsD_of {ds : List D} : ∀ (bs : List Bool), ds = bs.map D.bl → blsD ds = some bs
  | [], h => by subst h; rfl
  | b :: bs, h => by
    subst h
    show (blsD (bs.map D.bl)).map (b :: ·) = _
    rw [blsD_of bs rfl]; rfl
theorem all_true {α : Type} (xs : List α) : bAll [.lst (xs.map fun _ => D.bl true)] = some (.bl true) := by
  unfold bAll lsD
  dsimp only
  have : blsD (xs.map fun _ => D.bl true) = some (xs.map fun _ => true) := blsD_of _ (by rw [List.map_map]; rfl)
  simp only [Option.bind_some]
  rw [this]
  simp
theorem f_falling (w : Wd) {n : Nat} {r : List Nat} (hr : Row n r) (hn : n ≤ 200) : F_is_falling [rowD r] w = .ok (.bl true) w := by
  refine defOf_ret ?_
  unfold g_is_falling
  have hl := hr.len
  have hz : eZip (vP 0) (eSl dSl (vP 0) (eOpt (ePure (.int 1))) (ePure none)) (startE 3 [rowD r]) w = .ok ((r.zip (r.drop 1)).map fun p => D.ftp [.int (p.1 : Nat), .int (p.2 : Nat)]) w := by
    have h1 : eSl dSl (vP 0) (eOpt (ePure (.int 1))) (ePure none) (startE 3 [rowD r]) w = .ok (rowD (r.drop 1)) w := by
      have := sl_row1 r
      generalize rowD (r.drop 1) = y at this ⊢
      simp [sRet, sRetN, sSet, sSetN, sSetS, sPar, sPar3, sTgt, sIf, sDrop, sStuck, sBrk, sCnt, sNil, sFreeze, frzAt, sSeq, SO.seq, R.on, sPut, sPutAt, known, putD, sChgL, hApp, hExt, sAugN, sPop, eFz, eOw, eD, eAnd, eOr, eNotB, eIf, eBind, M.bind, eBl, eTru, eCall, eCl, eCons, eNil, eApp, vF, vP, startE, ePure, toB, M.ofOption, M.pure, eChain, eUn, dNeg, eOp, eTup, eLst, eSeq, eOpt, eSl, eIx, dIx, dIxS, seqD, gtN, gtTup, gtCons, gtNil, eItv, iterD, eRg1, eRg2, rg1, rg2, eZip, both, eEnum, eIn, eNotIn, wipeE, this]
    unfold eZip
    rw [eBind_ok (w1 := w) (a := rowD r) (by rfl), eBind_ok h1]
    have := zip_rows r (r.drop 1)
    unfold M.ofOption both rowD
    dsimp only
    rw [Option.map_some]
    dsimp only
    unfold natsD at this
    rw [this]
  have hc := comp_pure (tg := gtTup 2 (gtCons (gtN 1) (gtCons (gtN 2) gtNil))) (tt := ePure true) (te := eD (eBl (eOp oGe (vP 1) (vP 2)))) (Γ := wipeE (startE 3 [rowD r]) [1, 2]) (w := w) (fun p : Nat × Nat => D.ftp [.int (p.1 : Nat), .int (p.2 : Nat)]) (fun _ => true) (fun _ => D.bl true) (r.zip (r.drop 1)) (fun p hp => ⟨_, rfl, rfl, fun _ => by
    have := falling_zip hr.fall p hp
    simp [sRet, sRetN, sSet, sSetN, sSetS, sPar, sPar3, sTgt, sIf, sDrop, sStuck, sBrk, sCnt, sNil, sFreeze, frzAt, sSeq, SO.seq, R.on, sPut, sPutAt, known, putD, sChgL, hApp, hExt, sAugN, sPop, eFz, eOw, eD, eAnd, eOr, eNotB, eIf, eBind, M.bind, eBl, eTru, eCall, eCl, eCons, eNil, eApp, vF, vP, startE, ePure, toB, M.ofOption, M.pure, eChain, eUn, dNeg, eOp, eTup, eLst, eSeq, eOpt, eSl, eIx, dIx, dIxS, seqD, gtN, gtTup, gtCons, gtNil, eItv, iterD, eRg1, eRg2, rg1, rg2, eZip, both, eEnum, eIn, eNotIn, wipeE, oGe, dGe]
    omega⟩)
  have hcomp := eComp_of (vs := [1, 2]) hz (by rw [List.length_map, sizeL, List.length_zip]; omega) hc
  rw [filt_true] at hcomp
  have ha := all_true (r.zip (r.drop 1))
  generalize eComp (eZip (vP 0) (eSl dSl (vP 0) (eOpt (ePure (.int 1))) (ePure none))) [1, 2] (gtTup 2 (gtCons (gtN 1) (gtCons (gtN 2) gtNil))) (ePure true) (eD (eBl (eOp oGe (vP 1) (vP 2)))) = E at hcomp ⊢
  generalize startE 3 [rowD r] = Γ at hcomp ⊢
  generalize D.lst (List.map (fun _ => D.bl true) (r.zip (List.drop 1 r))) = L at hcomp ha
  simp [sRet, sRetN, sSet, sSetN, sSetS, sPar, sPar3, sTgt, sIf, sDrop, sStuck, sBrk, sCnt, sNil, sFreeze, frzAt, sSeq, SO.seq, R.on, sPut, sPutAt, known, putD, sChgL, hApp, hExt, sAugN, sPop, eFz, eOw, eD, eAnd, eOr, eNotB, eIf, eBind, M.bind, eBl, eTru, eCall, eCl, eCons, eNil, eApp, vF, vP, startE, ePure, toB, M.ofOption, M.pure, eChain, eUn, dNeg, eOp, eTup, eLst, eSeq, eOpt, eSl, eIx, dIx, dIxS, seqD, gtN, gtTup, gtCons, gtNil, eItv, iterD, eRg1, eRg2, rg1, rg2, eZip, both, eEnum, eIn, eNotIn, wipeE, hcomp, ha]
theorem intsD_nats : ∀ r : List Nat, intsD (natsD r) = some (r.map fun n => ((n : Nat) : Int))
  | [] => rfl
  | n :: r => by
    show (intsD (natsD r)).map (((n : Nat) : Int) :: ·) = _
    rw [intsD_nats r]; rfl
theorem sum_nats : ∀ r : List Nat, (r.map fun n => ((n : Nat) : Int)).sum = ((r.sum : Nat) : Int)
  | [] => rfl
  | n :: r => by rw [List.map_cons, List.sum_cons, List.sum_cons, sum_nats r]; omega
theorem bSum_row (r : List Nat) : bSum [rowD r] = some (.int ((r.sum : Nat) : Int)) := by
  unfold bSum
  dsimp only
  rw [seqD_row]
  simp only [Option.bind_some]
  rw [intsD_nats, Option.map_some, sum_nats]
theorem natsD_rev (r : List Nat) : (natsD r).reverse = natsD r.reverse := by simp [natsD]
/-- tuple(sorted(xs)[::-1]) -/
theorem e_desc {E : EX D} {Γ : Ev} {w w' : Wd} {l : List Nat} (h : E Γ w = .ok (.lst (natsD l)) w') (hl : l.length ≤ sizeLine) : eCl bTuple (eCons (eUn dRev (eCl bSortA (eCons E eNil))) eNil) Γ w = .ok (rowD (isort geN l)) w' := by
  have hs := sortA_f l hl
  have e : rowD (isort geN l) = .tup ((natsD (isort leN l)).reverse) := by rw [natsD_rev, isort_rev]; rfl
  rw [e]
  generalize natsD (isort leN l) = x at hs ⊢
  generalize natsD l = y at h hs
  simp [sRet, sRetN, sSet, sSetN, sSetS, sPar, sPar3, sTgt, sIf, sDrop, sStuck, sBrk, sCnt, sNil, sFreeze, frzAt, sSeq, SO.seq, R.on, sPut, sPutAt, known, putD, sChgL, hApp, hExt, sAugN, sPop, eFz, eOw, eD, eAnd, eOr, eNotB, eIf, eBind, M.bind, eBl, eTru, eCall, eCl, eCons, eNil, eApp, vF, vP, startE, ePure, toB, M.ofOption, M.pure, eChain, eUn, dNeg, eOp, eTup, eLst, eSeq, eOpt, eSl, eIx, dIx, dIxS, seqD, gtN, gtTup, gtCons, gtNil, eItv, iterD, eRg1, eRg2, rg1, rg2, eZip, both, eEnum, eIn, eNotIn, wipeE, h, hs, dRev, bTuple]
theorem req_num (w : Wd) (k a b : Int) (h1 : a ≤ k) (h2 : k ≤ b) (h3 : -1000 < k) (h4 : k < 1000) : F_require_number [.int k, .int a, .int b] w = .ok .non w := by
  refine defOf_nx (Γ := startE 3 [.int k, .int a, .int b]) ?_
  unfold g_require_number
  have hn := f_is_near k w ⟨by omega, by omega⟩
  have g1 : ¬ k < a := by omega
  have g2 : ¬ b < k := by omega
  simp [sRet, sRetN, sSet, sSetN, sSetS, sPar, sPar3, sTgt, sIf, sDrop, sStuck, sBrk, sCnt, sNil, sFreeze, frzAt, sSeq, SO.seq, R.on, sPut, sPutAt, known, putD, sChgL, hApp, hExt, sAugN, sPop, eFz, eOw, eD, eAnd, eOr, eNotB, eIf, eBind, M.bind, eBl, eTru, eCall, eCl, eCons, eNil, eApp, vF, vP, startE, ePure, toB, M.ofOption, M.pure, eChain, eUn, dNeg, eOp, eTup, eLst, eSeq, eOpt, eSl, eIx, dIx, dIxS, seqD, gtN, gtTup, gtCons, gtNil, eItv, iterD, eRg1, eRg2, rg1, rg2, eZip, both, eEnum, eIn, eNotIn, wipeE, hn, dTru, dIsNot, dIs, dIsN, dIsB, isNon, bNot, oLt, dLt, oGt, dGt, g1, g2]
def stairL : Nat → List Nat
  | 0 => []
  | k + 1 => (k + 1) :: stairL k
theorem stairL_row : ∀ k : Nat, Row (k * (k + 1) / 2) (stairL k)
  | 0 => ⟨.nil, (fun p h => by cases h), rfl⟩
  | k + 1 => by
    have ih := stairL_row k
    have top : ∀ k : Nat, ∀ p ∈ stairL k, p ≤ k := by
      intro k
      induction k with
      | zero => intro p h; cases h
      | succ k ih =>
        intro p h
        rcases List.mem_cons.mp h with h | h
        · omega
        · have := ih p h; omega
    refine ⟨List.pairwise_cons.mpr ⟨fun p hp => Nat.le_succ_of_le (top k p hp), ih.fall⟩, fun p hp => ?_, ?_⟩
    · rcases List.mem_cons.mp hp with h | h
      · omega
      · exact ih.pos p h
    · show (stairL (k + 1)).sum = (k + 1) * (k + 1 + 1) / 2
      have e : (k + 1) * (k + 1 + 1) = k * (k + 1) + 2 * (k + 1) := by
        have h1 : (k + 1) * (k + 1 + 1) = (k + 1) * k + (k + 1) + (k + 1) := by rw [Nat.mul_add, Nat.mul_add]; omega
        have h2 := Nat.mul_comm k (k + 1)
        omega
      rw [e]
      show (k + 1) + (stairL k).sum = _
      rw [ih.sum]
      omega
theorem ix_ints (w : Wd) (ns : List Int) (i : Nat) (h : i < ns.length) : ∃ c : Int, dIx w (.fls (ns.map D.int)) (.int (i : Nat)) = some (.int c) := by
  refine ⟨ns[i]'h, ?_⟩
  show L2.atI (ns.map D.int) (i : Nat) = _
  unfold L2.atI L2.ixN
  rw [List.length_map, if_pos (by omega), if_pos (by omega)]
  show (ns.map D.int)[i]? = _
  rw [List.getElem?_map, List.getElem?_eq_getElem h]; rfl
theorem mul_l {i j : Int} (h : -18446744073709551616 < i ∧ i < 18446744073709551616) : dMul (.int i) (.int j) = some (.int (i * j)) := if_pos (cMul_l h)
theorem mul_r {i j : Int} (h : -18446744073709551616 < j ∧ j < 18446744073709551616) : dMul (.int i) (.int j) = some (.int (i * j)) := if_pos (cMul_r h)
theorem mod_pos {i j : Int} (h : 0 < j) : dMod (.int i) (.int j) = some (.int (i % j)) := if_pos (decide_eq_true h)
theorem p17 : dPow (.int 10) (.int 17) = some (.int 100000000000000000) := by kernel_rfl
theorem p60 : dPow (.int 10) (.int 60) = some (.int 1000000000000000000000000000000000000000000000000000000000000) := by kernel_rfl
theorem p120 : dMul (.int 1000000000000000000000000000000000000000000000000000000000000) (.int 1000000000000000000000000000000000000000000000000000000000000) = some (.int 1000000000000000000000000000000000000000000000000000000000000000000000000000000000000000000000000000000000000000000000000) := by kernel_rfl
theorem pick_cell (w : Wd) (f : D) (ns : List Int) (hf : f = .fls (ns.map D.int)) (spot : Nat) (hs : spot < 5) : ∃ c : Int, eIf (eBl (eOp oLt (vP 1) (eCl bLenS (eCons (vP 0) eNil)))) (eCl bInt (eCons (eIx (vP 0) (vP 1)) eNil)) (eOp dAdd (eOp dMul (ePure (.int 97)) (vP 1)) (ePure (.int 43))) [.frz f, .frz (.int (spot : Nat)), .no, .no] w = .ok (.int c) w := by
  have hl : bLenS [f] = some (.int (ns.length : Nat)) := by
    rw [hf]
    show some (D.int ((ns.map D.int).length : Nat)) = _
    rw [List.length_map]
  have hlt : oLt (.int (spot : Nat)) (.int (ns.length : Nat)) = some (.bl (decide (spot < ns.length))) := by
    show (some (D.bl (decide (((spot : Nat) : Int) < (ns.length : Nat))))).or _ = _
    rw [show decide (((spot : Nat) : Int) < (ns.length : Nat)) = decide (spot < ns.length) from decide_eq_decide.mpr (by omega)]; rfl
  by_cases h : spot < ns.length
  · obtain ⟨c, hc⟩ := ix_ints w ns spot h
    rw [← hf] at hc
    rw [decide_eq_true h] at hlt
    have hi : bInt [.int c] = some (.int c) := rfl
    generalize D.int (spot : Nat) = z at hlt hc ⊢
    have ei : eIx (vP 0) (vP 1) [.frz f, .frz z, .no, .no] w = .ok (.int c) w := by
      unfold eIx
      rw [eBind_ok (a := f) (w1 := w) rfl, eBind_ok (a := z) (w1 := w) rfl, hc]; rfl
    refine ⟨c, ?_⟩
    generalize eIx (vP 0) (vP 1) = E at ei ⊢
    simp [sRet, sRetN, sSet, sSetN, sSetS, sPar, sPar3, sTgt, sIf, sDrop, sStuck, sBrk, sCnt, sNil, sFreeze, frzAt, sSeq, SO.seq, R.on, sPut, sPutAt, known, putD, sChgL, hApp, hExt, sAugN, sPop, eFz, eOw, eD, eAnd, eOr, eNotB, eIf, eBind, M.bind, eBl, eTru, eCall, eCl, eCons, eNil, eApp, vF, vP, startE, ePure, toB, M.ofOption, M.pure, eChain, eUn, dNeg, eOp, eTup, eLst, eSeq, eOpt, eSl, eIx, dIx, dIxS, seqD, gtN, gtTup, gtCons, gtNil, eItv, iterD, eRg1, eRg2, rg1, rg2, eZip, both, eEnum, eIn, eNotIn, wipeE, hl, hlt, ei, hi]
  · rw [decide_eq_false h] at hlt
    have hm : dMul (.int 97) (.int (spot : Nat)) = some (.int (97 * (spot : Nat))) := mul_l (by decide)
    have ha : dAdd (.int (97 * (spot : Nat))) (.int 43) = some (.int (97 * (spot : Nat) + 43)) := rfl
    refine ⟨97 * (spot : Nat) + 43, ?_⟩
    generalize D.int (spot : Nat) = z at hlt hm ⊢
    simp [sRet, sRetN, sSet, sSetN, sSetS, sPar, sPar3, sTgt, sIf, sDrop, sStuck, sBrk, sCnt, sNil, sFreeze, frzAt, sSeq, SO.seq, R.on, sPut, sPutAt, known, putD, sChgL, hApp, hExt, sAugN, sPop, eFz, eOw, eD, eAnd, eOr, eNotB, eIf, eBind, M.bind, eBl, eTru, eCall, eCl, eCons, eNil, eApp, vF, vP, startE, ePure, toB, M.ofOption, M.pure, eChain, eUn, dNeg, eOp, eTup, eLst, eSeq, eOpt, eSl, eIx, dIx, dIxS, seqD, gtN, gtTup, gtCons, gtNil, eItv, iterD, eRg1, eRg2, rg1, rg2, eZip, both, eEnum, eIn, eNotIn, wipeE, hl, hlt, hm, ha]
theorem f_dice (w : Wd) (ns : List Int) (spot : Nat) (hs : spot < 5) : ∃ (n : Nat) (w' : Wd), F__law_dice [.fls (ns.map D.int), .int (spot : Nat)] w = .ok (.cell n) w' ∧ Dice w' n := by
  obtain ⟨c, hc⟩ := pick_cell w _ ns rfl spot hs
  obtain ⟨m, hm, hm0⟩ : ∃ m : Int, bMax [.int 0, .int ((if c < 0 then -c else c) - 100000000000000000)] = some (.int m) ∧ 0 ≤ m := by
    refine ⟨_, rfl, ?_⟩
    split <;> omega
  obtain ⟨bb, hb⟩ : ∃ b : Bool, oLt (.int c) (.int 0) = some (.bl b) := ⟨_, rfl⟩
  obtain ⟨bi, hbi⟩ : ∃ b : Int, bInt [.bl bb] = some (.int b) := ⟨_, rfl⟩
  have ha : bAbs [.int c] = some (.int (if c < 0 then -c else c)) := rfl
  have h1 : dSub (.int (if c < 0 then -c else c)) (.int 100000000000000000) = some (.int ((if c < 0 then -c else c) - 100000000000000000)) := rfl
  have h2 : dMod (.int m) (.int 1000000000000000000000000000000000000000000000000000000000000000000000000000000000000000000000000000000000000000000000000) = some (.int (m % 1000000000000000000000000000000000000000000000000000000000000000000000000000000000000000000000000000000000000000000000000)) := by
    exact mod_pos (by decide)
  have h3 : dMod (.int (if c < 0 then -c else c)) (.int 1152921504606846737) = some (.int ((if c < 0 then -c else c) % 1152921504606846737)) := by
    exact mod_pos (by decide)
  have m37 : ∀ i : Int, dMul (.int i) (.int 37) = some (.int (i * 37)) := fun i => mul_r (by decide)
  have m859 : ∀ i : Int, dMul (.int 859) (.int i) = some (.int (859 * i)) := fun i => mul_l (by decide)
  have m31 : ∀ i : Int, dMul (.int 31) (.int i) = some (.int (31 * i)) := fun i => mul_l (by decide)
  have hadd : ∀ i j : Int, dAdd (.int i) (.int j) = some (.int (i + j)) := fun _ _ => rfl
  have h0 : 0 ≤ m % 1000000000000000000000000000000000000000000000000000000000000000000000000000000000000000000000000000000000000000000000000 := Int.emod_nonneg _ (by decide)
  generalize m % 1000000000000000000000000000000000000000000000000000000000000000000000000000000000000000000000000000000000000000000000000 = left at h2 h0
  generalize (if c < 0 then -c else c) = ab at ha h1 h3 hm
  generalize ab % 1152921504606846737 = md at h3
  generalize ab - 100000000000000000 = df at h1 hm
  have pp60 := p60
  have pp120 := p120
  generalize (1000000000000000000000000000000000000000000000000000000000000 : Int) = K60 at pp60 pp120
  generalize (1000000000000000000000000000000000000000000000000000000000000000000000000000000000000000000000000000000000000000000000000 : Int) = K120 at pp120 h2
  generalize D.fls (ns.map D.int) = f at hc
  generalize ((spot : Nat) : Int) = sp at hc
  refine ⟨w.length, w ++ [[.int left, .int (md * 37 + 859 * sp + 31 * bi + 17), .int 0]], ?_, left, md * 37 + 859 * sp + 31 * bi + 17, 0, ?_, h0⟩
  · refine defOf_ret ?_
    unfold g__law_dice
    rw [seq_nx (w1 := w) (Γ1 := [.frz f, .frz (.int sp), .frz (.int c), .no]) (by
      unfold sSet R.on
      rw [show startE 4 [f, .int sp] = [.frz f, .frz (.int sp), .no, .no] from rfl, hc]; rfl)]
    rw [seq_nx (w1 := w) (Γ1 := [.frz f, .frz (.int sp), .frz (.int c), .frz (.int left)]) (by simp [sRet, sRetN, sSet, sSetN, sSetS, sPar, sPar3, sTgt, sIf, sDrop, sStuck, sBrk, sCnt, sNil, sFreeze, frzAt, sSeq, SO.seq, R.on, sPut, sPutAt, known, putD, sChgL, hApp, hExt, sAugN, sPop, eFz, eOw, eD, eAnd, eOr, eNotB, eIf, eBind, M.bind, eBl, eTru, eCall, eCl, eCons, eNil, eApp, vF, vP, startE, ePure, toB, M.ofOption, M.pure, eChain, eUn, dNeg, eOp, eTup, eLst, eSeq, eOpt, eSl, eIx, dIx, dIxS, seqD, gtN, gtTup, gtCons, gtNil, eItv, iterD, eRg1, eRg2, rg1, rg2, eZip, both, eEnum, eIn, eNotIn, wipeE, ha, p17, h1, hm, pp60, pp120, h2])]
    simp [sRet, sRetN, sSet, sSetN, sSetS, sPar, sPar3, sTgt, sIf, sDrop, sStuck, sBrk, sCnt, sNil, sFreeze, frzAt, sSeq, SO.seq, R.on, sPut, sPutAt, known, putD, sChgL, hApp, hExt, sAugN, sPop, eFz, eOw, eD, eAnd, eOr, eNotB, eIf, eBind, M.bind, eBl, eTru, eCall, eCl, eCons, eNil, eApp, vF, vP, startE, ePure, toB, M.ofOption, M.pure, eChain, eUn, dNeg, eOp, eTup, eLst, eSeq, eOpt, eSl, eIx, dIx, dIxS, seqD, gtN, gtTup, gtCons, gtNil, eItv, iterD, eRg1, eRg2, rg1, rg2, eZip, both, eEnum, eIn, eNotIn, wipeE, sRetC, ha, h3, m37, m859, m31, hadd, hb, hbi, sizeL]
  · simp
theorem for_inv {tg : FT} {b : SX} (P : Ev → Wd → Prop) : ∀ (ds : List D) (Γ : Ev) (w : Wd), P Γ w → (∀ x ∈ ds, ∀ Γ w, P Γ w → ∃ Γ1 Γ2 w2, tg x Γ = some Γ1 ∧ b Γ1 w = .nx Γ2 w2 ∧ P Γ2 w2) → ∃ Γ' w', sForL tg b ds Γ w = .nx Γ' w' ∧ P Γ' w'
  | [], Γ, w, h, _ => ⟨Γ, w, rfl, h⟩
  | d :: ds, Γ, w, h, hb => by
    obtain ⟨Γ1, Γ2, w2, e1, e2, h2⟩ := hb d (List.mem_cons_self ..) Γ w h
    obtain ⟨Γ', w', e3, h3⟩ := for_inv P ds Γ2 w2 h2 fun x hx => hb x (List.mem_cons_of_mem _ hx)
    refine ⟨Γ', w', ?_, h3⟩
    unfold sForL
    rw [e1]
    dsimp only
    rw [e2]
    exact e3


end LW

set_option Elab.async false
set_option linter.all false
set_option maxRecDepth 100000
set_option maxHeartbeats 4000000
namespace LW
open PySem DL

/-! ### a drawn row -/
theorem bSum_lst (r : List Nat) : bSum [.lst (natsD r)] = some (.int ((r.sum : Nat) : Int)) := by
  unfold bSum
  dsimp only
  rw [h_seqL]
  simp only [Option.bind_some]
  rw [intsD_nats, Option.map_some, sum_nats]
theorem stair_ge : ∀ j : Nat, j ≤ (stairL j).sum
  | 0 => Nat.zero_le _
  | j + 1 => by
    show j + 1 ≤ ((j + 1) :: stairL j).sum
    rw [List.sum_cons]; omega
theorem stair_len : ∀ j : Nat, (stairL j).length = j
  | 0 => rfl
  | j + 1 => by show (stairL j).length + 1 = _; rw [stair_len j]
theorem stair_loop (n : Nat) (hn : n ≤ 200) {c m wy x4 x5 x6 : Sl} {w : Wd} : ∀ (k j N : Nat), n < j + k → k ≤ N → (stairL j).sum ≤ n →
    ∃ j', (stairL j').sum ≤ n ∧ sWhile (eBl (eOp oLe (eOp dAdd (eCl bSum (eCons (vP 7) eNil)) (vP 8)) (vP 3))) b__law_row_1 N [c, m, wy, .frz (.int (n : Nat)), x4, x5, x6, .frz (.lst (natsD (stairL j))), .frz (.int ((j + 1 : Nat) : Int))] w
      = .nx [c, m, wy, .frz (.int (n : Nat)), x4, x5, x6, .frz (.lst (natsD (stairL j'))), .frz (.int ((j' + 1 : Nat) : Int))] w
  | 0, j, N, h, _, hs => by
    have := stair_ge j
    omega
  | k + 1, j, N, h, hN, hs => by
    obtain ⟨N, rfl⟩ : ∃ M, N = M + 1 := ⟨N - 1, by omega⟩
    have hb := bSum_lst (stairL j)
    have c0 : eBl (eOp oLe (eOp dAdd (eCl bSum (eCons (vP 7) eNil)) (vP 8)) (vP 3)) [c, m, wy, .frz (.int (n : Nat)), x4, x5, x6, .frz (.lst (natsD (stairL j))), .frz (.int ((j + 1 : Nat) : Int))] w = .ok (decide ((((stairL j).sum : Nat) : Int) + ((j + 1 : Nat) : Int) ≤ ((n : Nat) : Int))) w := by
      bv_omega
    by_cases hc : (stairL j).sum + (j + 1) ≤ n
    · rw [decide_eq_true (by omega)] at c0
      have hl := stair_len j
      have hj := stair_ge j
      have ha : lAdd (.lst [.int ((j + 1 : Nat) : Int)]) (.lst (natsD (stairL j))) = some (.lst (natsD (stairL (j + 1)))) := h_ladd (by rw [List.length_map]; simp; omega)
      have hp : dAdd (.int ((j + 1 : Nat) : Int)) (.int 1) = some (.int ((j + 1 + 1 : Nat) : Int)) := rfl
      have b0 : b__law_row_1 [c, m, wy, .frz (.int (n : Nat)), x4, x5, x6, .frz (.lst (natsD (stairL j))), .frz (.int ((j + 1 : Nat) : Int))] w = .nx [c, m, wy, .frz (.int (n : Nat)), x4, x5, x6, .frz (.lst (natsD (stairL (j + 1)))), .frz (.int ((j + 1 + 1 : Nat) : Int))] w := by
        unfold b__law_row_1
        bv_omega
      obtain ⟨j', h1, h2⟩ := stair_loop n hn k (j + 1) N (by omega) (by omega) (by show ((j + 1) :: stairL j).sum ≤ n; rw [List.sum_cons]; omega)
      exact ⟨j', h1, by rw [while_true c0 b0]; exact h2⟩
    · rw [decide_eq_false (by omega)] at c0
      exact ⟨j, hs, while_false c0⟩
theorem part_loop (d n way : Nat) (hn : n ≤ 200) {m x7 x8 : Sl} : ∀ (left N : Nat) (l : List Nat) (w : Wd) (x : Sl), Dice w d → left ≤ N → (∀ p ∈ l, 1 ≤ p) → l.sum + left = n →
    ∃ (l' : List Nat) (w' : Wd) (x' : Sl), Dice w' d ∧ (∀ p ∈ l', 1 ≤ p) ∧ l'.sum = n ∧
      sWhile (eBl (eOp oGt (vP 5) (ePure (.int 0)))) b__law_row_2 (N + 1) [.frz (.cell d), m, .frz (.int (way : Nat)), .frz (.int (n : Nat)), .own (.lst (natsD l)), .frz (.int (left : Nat)), x, x7, x8] w
        = .nx [.frz (.cell d), m, .frz (.int (way : Nat)), .frz (.int (n : Nat)), .own (.lst (natsD l')), .frz (.int ((0 : Nat) : Int)), x', x7, x8] w' := by
  intro left
  induction left using Nat.strongRecOn with
  | ind left ih =>
    intro N l w x hd hN hl hs
    have c0 : eBl (eOp oGt (vP 5) (ePure (.int 0))) [.frz (.cell d), m, .frz (.int (way : Nat)), .frz (.int (n : Nat)), .own (.lst (natsD l)), .frz (.int (left : Nat)), x, x7, x8] w = .ok (decide (0 < ((left : Nat) : Int))) w := by bv_omega
    by_cases h0 : left = 0
    · subst h0
      exact ⟨l, w, x, hd, hl, by omega, while_false c0⟩
    · rw [decide_eq_true (by omega)] at c0
      obtain ⟨t, ht1, ht2, ht3⟩ : ∃ t : Nat, 1 ≤ t ∧ t ≤ left ∧ eIf (eBl (eOp dEq (vP 2) (ePure (.int 2)))) (vF 5) (eCl bMin (eCons (vP 5) (eCons (ePure (.int 4)) eNil))) [.frz (.cell d), m, .frz (.int (way : Nat)), .frz (.int (n : Nat)), .own (.lst (natsD l)), .frz (.int (left : Nat)), x, x7, x8] w = .ok (.int (t : Nat)) w := by
        have c1 : eBl (eOp dEq (vP 2) (ePure (.int 2))) [.frz (.cell d), m, .frz (.int (way : Nat)), .frz (.int (n : Nat)), .own (.lst (natsD l)), .frz (.int (left : Nat)), x, x7, x8] w = .ok (decide (((way : Nat) : Int) = 2)) w := by bv_omega
        by_cases h2 : way = 2
        · rw [decide_eq_true (by omega)] at c1
          exact ⟨left, by omega, Nat.le_refl _, x_if_t c1 (by bv_omega)⟩
        · rw [decide_eq_false (by omega)] at c1
          have hb : bMin [.int ((left : Nat) : Int), .int 4] = some (.int (if (4 : Int) < (left : Nat) then 4 else (left : Nat))) := rfl
          by_cases h4 : (4 : Int) < (left : Nat)
          · rw [if_pos h4] at hb
            have hb : bMin [.int ((left : Nat) : Int), .int 4] = some (.int ((4 : Nat) : Int)) := hb
            exact ⟨4, by omega, by omega, x_if_f c1 (by bv_omega)⟩
          · rw [if_neg h4] at hb
            exact ⟨left, by omega, Nat.le_refl _, x_if_f c1 (by bv_omega)⟩
      have hlog : ((t : Nat) : Int).natAbs.log2 < 9000 := by
        have : ((t : Nat) : Int).natAbs = t := Int.natAbs_natCast t
        rw [this]
        have := Nat.log2_le_self t
        omega
      obtain ⟨r, w', e, r0, r1, hd'⟩ := f_roll w d (t : Nat) hd (by omega) hlog
      obtain ⟨q, rfl⟩ : ∃ q : Nat, r = (q : Nat) := ⟨r.toNat, by omega⟩
      obtain ⟨N, rfl⟩ : ∃ M, N = M + 1 := ⟨N - 1, by omega⟩
      have hlen : l.length ≤ 200 := by have := len_le_sum hl; omega
      have b0 : b__law_row_2 [.frz (.cell d), m, .frz (.int (way : Nat)), .frz (.int (n : Nat)), .own (.lst (natsD l)), .frz (.int (left : Nat)), x, x7, x8] w = .nx [.frz (.cell d), m, .frz (.int (way : Nat)), .frz (.int (n : Nat)), .own (.lst (natsD (l ++ [1 + q]))), .frz (.int ((left - (1 + q) : Nat) : Nat)), .frz (.int ((1 + q : Nat) : Nat)), x7, x8] w' := by
        unfold b__law_row_2
        have happ : hApp (natsD l) (.int ((1 + q : Nat) : Nat)) = some (natsD (l ++ [1 + q])) := by
          rw [h_app (by rw [List.length_map]; omega)]
          simp [natsD]
        have hadd : dAdd (.int 1) (.int ((q : Nat) : Int)) = some (.int ((1 + q : Nat) : Nat)) := rfl
        have hsub : dSub (.int (left : Nat)) (.int ((1 + q : Nat) : Nat)) = some (.int ((left - (1 + q) : Nat) : Nat)) := by
          rw [h_sub]
          congr 2; omega
        bv_omega
      obtain ⟨l', w2, x2, g1, g2, g3, g4⟩ := ih (left - (1 + q)) (by omega) N (l ++ [1 + q]) w' (.frz (.int ((1 + q : Nat) : Nat))) hd' (by omega) (fun p hp => by
        rcases List.mem_append.mp hp with hp | hp
        · exact hl p hp
        · rw [List.mem_singleton] at hp; omega) (by rw [List.sum_append]; simp only [List.sum_cons, List.sum_nil]; omega)
      exact ⟨l', w2, x2, g1, g2, g3, by rw [while_true c0 b0]; exact g4⟩
theorem h_rep1 {x : D} (k : Nat) (hk : k ≤ 1000) : dMul (.tup [x]) (.int (k : Nat)) = some (.tup (List.replicate k x)) := by
  have : dMul (.tup [x]) (.int (k : Nat)) = some (.tup (List.replicate ((k : Nat) : Int).toNat [x]).flatten) := if_pos ⟨by simp, by omega, by omega⟩
  rw [this, Int.toNat_natCast]
  simp
theorem f_law_row (w : Wd) (d most : Nat) (hd : Dice w d) (hm : most ≤ 200) : ∃ (n : Nat) (r : List Nat) (w' : Wd), F__law_row [.cell d, .int (most : Nat)] w = .ok (rowD r) w' ∧ Row n r ∧ n ≤ most ∧ Dice w' d := by
  obtain ⟨v, w1, e1, v0, v1, hd1⟩ := f_roll w d 4 hd (by decide) (by decide)
  obtain ⟨way, rfl⟩ : ∃ q : Nat, v = (q : Nat) := ⟨v.toNat, by omega⟩
  have lg : ∀ t : Nat, t ≤ 300 → ((t : Nat) : Int).natAbs.log2 < 9000 := fun t ht => by
    have : ((t : Nat) : Int).natAbs = t := Int.natAbs_natCast t
    rw [this]
    have := Nat.log2_le_self t
    omega
  obtain ⟨v, w2, e2, v2, v3, hd2⟩ := f_roll w1 d ((most + 1 : Nat) : Int) hd1 (by omega) (lg _ (by omega))
  obtain ⟨n, rfl⟩ : ∃ q : Nat, v = (q : Nat) := ⟨v.toNat, by omega⟩
  have hn : n ≤ most := by omega
  have hp : dAdd (.int ((most : Nat) : Int)) (.int 1) = some (.int ((most + 1 : Nat) : Int)) := rfl
  have q1 : sPar 2 3 (eFz (eCall F__law_roll (eCons (vF 0) (eCons (ePure (.int 4)) eNil)))) (eFz (eCall F__law_roll (eCons (vF 0) (eCons (eOp dAdd (vP 1) (ePure (.int 1))) eNil)))) (startE 9 [.cell d, .int (most : Nat)]) w = .nx [.frz (.cell d), .frz (.int (most : Nat)), .frz (.int (way : Nat)), .frz (.int (n : Nat)), .no, .no, .no, .no, .no] w2 := by
    bv_omega
  have t1 : eBl (eOp dEq (vP 2) (ePure (.int 0))) [.frz (.cell d), .frz (.int (most : Nat)), .frz (.int (way : Nat)), .frz (.int (n : Nat)), .no, .no, .no, .no, .no] w2 = .ok (decide (((way : Nat) : Int) = 0)) w2 := by bv_omega
  have t2 : eBl (eOp oGt (vP 3) (ePure (.int 0))) [.frz (.cell d), .frz (.int (most : Nat)), .frz (.int (way : Nat)), .frz (.int (n : Nat)), .no, .no, .no, .no, .no] w2 = .ok (decide (0 < ((n : Nat) : Int))) w2 := by bv_omega
  have t3 : eBl (eOp dEq (vP 2) (ePure (.int 1))) [.frz (.cell d), .frz (.int (most : Nat)), .frz (.int (way : Nat)), .frz (.int (n : Nat)), .no, .no, .no, .no, .no] w2 = .ok (decide (((way : Nat) : Int) = 1)) w2 := by bv_omega
  have t12 := x_and t1 fun _ => t2
  by_cases c1 : way = 0 ∧ 0 < n
  · obtain ⟨v, w3, e3, v4, v5, hd3⟩ := f_roll w2 d ((n : Nat) : Int) hd2 (by omega) (lg _ (by omega))
    obtain ⟨q, rfl⟩ : ∃ q : Nat, v = (q : Nat) := ⟨v.toNat, by omega⟩
    have hq : 1 + q ≤ n := by omega
    have hdiv : n / (1 + q) ≤ n := Nat.div_le_self _ _
    have hmul : (1 + q) * (n / (1 + q)) ≤ n := Nat.mul_div_le n (1 + q)
    refine ⟨(1 + q) * (n / (1 + q)), List.replicate (n / (1 + q)) (1 + q), w3, ?_, ⟨List.pairwise_replicate.mpr (.inr (Nat.le_refl _)), fun p hp => by rw [(List.mem_replicate.mp hp).2]; omega, by rw [List.sum_replicate_nat, Nat.mul_comm]⟩, by omega, hd3⟩
    refine def_ret ?_
    unfold g__law_row
    refine s_seq q1 ?_
    refine s_seqr ?_
    rw [decide_eq_true (by omega), decide_eq_true (by omega)] at t12
    refine s_if_t t12 ?_
    have hadd : dAdd (.int 1) (.int ((q : Nat) : Int)) = some (.int ((1 + q : Nat) : Nat)) := rfl
    have hd : dDiv (.int ((n : Nat) : Int)) (.int ((1 + q : Nat) : Int)) = some (.int ((n / (1 + q) : Nat) : Int)) := by
      rw [h_div (by omega) (lg _ (by omega))]; rfl
    have hr : dMul (.tup [.int ((1 + q : Nat) : Int)]) (.int ((n / (1 + q) : Nat) : Int)) = some (rowD (List.replicate (n / (1 + q)) (1 + q))) := by
      rw [h_rep1 _ (by omega)]
      unfold rowD
      rw [List.map_replicate]
    bv_omega
  · have t12' : eAnd (eBl (eOp dEq (vP 2) (ePure (.int 0)))) (eBl (eOp oGt (vP 3) (ePure (.int 0)))) [.frz (.cell d), .frz (.int (most : Nat)), .frz (.int (way : Nat)), .frz (.int (n : Nat)), .no, .no, .no, .no, .no] w2 = .ok false w2 := by
      rw [t12]
      have : (decide (((way : Nat) : Int) = 0) && decide (0 < ((n : Nat) : Int))) = false := by
        by_cases z : way = 0
        · rw [decide_eq_false (p := 0 < ((n : Nat) : Int)) (by omega)]; simp
        · rw [decide_eq_false (p := ((way : Nat) : Int) = 0) (by omega)]; rfl
      rw [this]
    by_cases c2 : way = 1
    · rw [decide_eq_true (by omega)] at t3
      obtain ⟨j, h1, h2⟩ := stair_loop n (by omega) (c := .frz (.cell d)) (m := .frz (.int (most : Nat))) (wy := .frz (.int (way : Nat))) (x4 := .no) (x5 := .no) (x6 := .no) (w := w2) (n + 1) 0 100000 (by omega) (by omega) (by simp [stairL])
      have hrow := stairL_row j
      refine ⟨(stairL j).sum, stairL j, w2, ?_, ⟨hrow.fall, hrow.pos, rfl⟩, by omega, hd2⟩
      refine def_ret ?_
      unfold g__law_row
      refine s_seq q1 (s_seq (s_if_f t12' s_nil) (s_seqr (s_if_t t3 ?_)))
      refine s_seq (Γ1 := [.frz (.cell d), .frz (.int (most : Nat)), .frz (.int (way : Nat)), .frz (.int (n : Nat)), .no, .no, .no, .frz (.lst (natsD (stairL 0))), .frz (.int ((0 + 1 : Nat) : Int))]) (w1 := w2) ?_ (s_seq h2 ?_)
      · refine s_par (x_fz (x_lst x_nil (len_ok (by simp)))) (x_fz x_pure) rfl
      · have ht : bTuple [.lst (natsD (stairL j))] = some (rowD (stairL j)) := rfl
        bv_omega
    · rw [decide_eq_false (by omega)] at t3
      obtain ⟨l, w3, x2, g1, g2, g3, g4⟩ := part_loop d n way (by omega) (m := .frz (.int (most : Nat))) (x7 := .no) (x8 := .no) n 99999 [] w2 .no hd2 (by omega) (fun p h => by cases h) (by simp)
      refine ⟨n, isort geN l, w3, ?_, ⟨isort_falling _, fun p hp => g2 p ((isort_perm geN l).mem_iff.mp hp), by rw [(isort_perm geN l).sum_nat]; exact g3⟩, hn, g1⟩
      refine def_ret ?_
      unfold g__law_row
      refine s_seq q1 (s_seq (s_if_f t12' s_nil) (s_seq (s_if_f t3 s_nil) ?_))
      refine s_seq (Γ1 := [.frz (.cell d), .frz (.int (most : Nat)), .frz (.int (way : Nat)), .frz (.int (n : Nat)), .own (.lst (natsD [])), .frz (.int (n : Nat)), .no, .no, .no]) (w1 := w2) ?_ (s_seq g4 ?_)
      · refine s_par (x_ow (x_lst x_nil (len_ok (by simp)))) (x_fz (x_vF rfl)) rfl
      · have hlen : l.length ≤ sizeLine := by have := len_le_sum g2; rw [sizeL]; omega
        refine s_ret (e_desc ?_ hlen)
        bv_omega

end LW

set_option Elab.async false
set_option linter.all false
set_option maxRecDepth 100000
set_option maxHeartbeats 4000000
namespace LW
open PySem DL
def step (r : List Nat) : List Nat := isort geN (((r.filter fun p => decide (1 < p)).map fun p => p - 1) ++ (if r = [] then [] else [r.length]))
theorem f_stepped (w : Wd) {n : Nat} {r : List Nat} (h : Row n r) (hn : n ≤ 200) : F_stepped_in [rowD r] w = .ok (rowD (step r)) w := by
  refine defOf_ret ?_
  unfold g_stepped_in
  have hl := h.len
  by_cases hr : r = []
  · subst hr
    simp [sRet, sRetN, sSet, sSetN, sSetS, sPar, sPar3, sTgt, sIf, sDrop, sStuck, sBrk, sCnt, sNil, sFreeze, frzAt, sSeq, SO.seq, R.on, sPut, sPutAt, known, putD, sChgL, hApp, hExt, sAugN, sPop, eFz, eOw, eD, eAnd, eOr, eNotB, eIf, eBind, M.bind, eBl, eTru, eCall, eCl, eCons, eNil, eApp, vF, vP, startE, ePure, toB, M.ofOption, M.pure, eChain, eUn, dNeg, eOp, eTup, eLst, eSeq, eOpt, eSl, eIx, dIx, dIxS, seqD, gtN, gtTup, gtCons, gtNil, eItv, iterD, eRg1, eRg2, rg1, rg2, eZip, both, eEnum, eIn, eNotIn, wipeE, rowD, dEq, dEqv, D.toPy, toPys, SeqAt.shaped, PyData.canLay0, PyData.canLayAll0, PyData.depth, PyData.depthAll, PyData.eqv, PyData.eqvAll]
    rfl
  · have hne : dEq (rowD r) (.tup []) = some (.bl false) := by
      have e : D.tup [] = rowD [] := rfl
      rw [e]
      unfold dEq dEqv
      rw [shaped_row, shaped_row, eqv_row, decide_eq_false hr]; rfl
    have hc : eCompL (gtN 2) (eBl (eOp oGt (vP 2) (ePure (.int 1)))) (eOp dSub (vP 2) (ePure (.int 1))) (wipeE (startE 3 [rowD r]) [2]) (natsD r) w = .ok (natsD ((r.filter fun p => decide (1 < p)).map fun p => p - 1)) w := by
      have := comp_pure (tg := gtN 2) (tt := eBl (eOp oGt (vP 2) (ePure (.int 1)))) (te := eOp dSub (vP 2) (ePure (.int 1))) (Γ := wipeE (startE 3 [rowD r]) [2]) (w := w) (fun n : Nat => D.int (n : Nat)) (fun p => decide (1 < p)) (fun p => D.int ((p - 1 : Nat) : Nat)) r fun p hp => ?_
      · rw [this, natsD, List.map_map]; rfl
      · refine ⟨_, rfl, ?_, fun hp1 => ?_⟩
        · simp [sRet, sRetN, sSet, sSetN, sSetS, sPar, sPar3, sTgt, sIf, sDrop, sStuck, sBrk, sCnt, sNil, sFreeze, frzAt, sSeq, SO.seq, R.on, sPut, sPutAt, known, putD, sChgL, hApp, hExt, sAugN, sPop, eFz, eOw, eD, eAnd, eOr, eNotB, eIf, eBind, M.bind, eBl, eTru, eCall, eCl, eCons, eNil, eApp, vF, vP, startE, ePure, toB, M.ofOption, M.pure, eChain, eUn, dNeg, eOp, eTup, eLst, eSeq, eOpt, eSl, eIx, dIx, dIxS, seqD, gtN, gtTup, gtCons, gtNil, eItv, iterD, eRg1, eRg2, rg1, rg2, eZip, both, eEnum, eIn, eNotIn, wipeE, oGt, dGt]
          omega
        · have hp1 := of_decide_eq_true hp1
          simp [sRet, sRetN, sSet, sSetN, sSetS, sPar, sPar3, sTgt, sIf, sDrop, sStuck, sBrk, sCnt, sNil, sFreeze, frzAt, sSeq, SO.seq, R.on, sPut, sPutAt, known, putD, sChgL, hApp, hExt, sAugN, sPop, eFz, eOw, eD, eAnd, eOr, eNotB, eIf, eBind, M.bind, eBl, eTru, eCall, eCl, eCons, eNil, eApp, vF, vP, startE, ePure, toB, M.ofOption, M.pure, eChain, eUn, dNeg, eOp, eTup, eLst, eSeq, eOpt, eSl, eIx, dIx, dIxS, seqD, gtN, gtTup, gtCons, gtNil, eItv, iterD, eRg1, eRg2, rg1, rg2, eZip, both, eEnum, eIn, eNotIn, wipeE, dSub]
          omega
    have hcomp : eComp (eSeq (vP 0)) [2] (gtN 2) (eBl (eOp oGt (vP 2) (ePure (.int 1)))) (eOp dSub (vP 2) (ePure (.int 1))) (startE 3 [rowD r]) w = .ok (.lst (natsD ((r.filter fun p => decide (1 < p)).map fun p => p - 1))) w :=
      eComp_of (w1 := w) (ds := natsD r) (by rfl) (by rw [List.length_map, sizeL]; omega) hc
    have e0 : sIf (eBl (eOp dEq (vP 0) (eTup eNil))) (sRet (vF 0)) sNil (startE 3 [rowD r]) w = .nx (startE 3 [rowD r]) w := by
      simp [sRet, sRetN, sSet, sSetN, sSetS, sPar, sPar3, sTgt, sIf, sDrop, sStuck, sBrk, sCnt, sNil, sFreeze, frzAt, sSeq, SO.seq, R.on, sPut, sPutAt, known, putD, sChgL, hApp, hExt, sAugN, sPop, eFz, eOw, eD, eAnd, eOr, eNotB, eIf, eBind, M.bind, eBl, eTru, eCall, eCl, eCons, eNil, eApp, vF, vP, startE, ePure, toB, M.ofOption, M.pure, eChain, eUn, dNeg, eOp, eTup, eLst, eSeq, eOpt, eSl, eIx, dIx, dIxS, seqD, gtN, gtTup, gtCons, gtNil, eItv, iterD, eRg1, eRg2, rg1, rg2, eZip, both, eEnum, eIn, eNotIn, wipeE, hne]
    rw [seq_nx e0]
    have e1 : sSetN 1 (eComp (eSeq (vP 0)) [2] (gtN 2) (eBl (eOp oGt (vP 2) (ePure (.int 1)))) (eOp dSub (vP 2) (ePure (.int 1)))) (startE 3 [rowD r]) w = .nx [.frz (rowD r), .own (.lst (natsD ((r.filter fun p => decide (1 < p)).map fun p => p - 1))), .no] w := by
      unfold sSetN R.on
      rw [hcomp]; rfl
    rw [seq_nx e1]
    have hlen : (((r.filter fun p => decide (1 < p)).map fun p => p - 1) ++ [r.length]).length ≤ sizeLine := by
      rw [List.length_append, List.length_map, sizeL]
      have := List.length_filter_le (fun p => decide (1 < p)) r
      simp only [List.length_cons, List.length_nil]
      omega
    have hs := dSort_t _ hlen
    have hstep : step r = isort geN (((r.filter fun p => decide (1 < p)).map fun p => p - 1) ++ [r.length]) := by unfold step; rw [if_neg hr]
    have hl1 : (rowD r :: []).length = 1 := rfl
    have hln : bLenS [rowD r] = some (.int ((r.length : Nat) : Int)) := by
      unfold bLenS rowD seqD
      simp
    have hd : natsD ((r.filter fun p => decide (1 < p)).map fun p => p - 1) ++ [D.int (r.length : Nat)] = natsD (((r.filter fun p => decide (1 < p)).map fun p => p - 1) ++ [r.length]) := by simp [natsD]
    have hlen2 : (natsD (((r.filter fun p => decide (1 < p)).map fun p => p - 1) ++ [r.length])).length ≤ sizeLine := by rw [List.length_map]; exact hlen
    have hres : rowD (step r) = .tup (natsD (isort geN (((r.filter fun p => decide (1 < p)).map fun p => p - 1) ++ [r.length]))) := by rw [hstep]; rfl
    rw [hres]
    generalize (((r.filter fun p => decide (1 < p)).map fun p => p - 1) ++ [r.length]) = zs at hd hlen hlen2 hs ⊢
    generalize natsD ((r.filter fun p => decide (1 < p)).map fun p => p - 1) = ys at hd ⊢
    simp [sRet, sRetN, sSet, sSetN, sSetS, sPar, sPar3, sTgt, sIf, sDrop, sStuck, sBrk, sCnt, sNil, sFreeze, frzAt, sSeq, SO.seq, R.on, sPut, sPutAt, known, putD, sChgL, hApp, hExt, sAugN, sPop, eFz, eOw, eD, eAnd, eOr, eNotB, eIf, eBind, M.bind, eBl, eTru, eCall, eCl, eCons, eNil, eApp, vF, vP, startE, ePure, toB, M.ofOption, M.pure, eChain, eUn, dNeg, eOp, eTup, eLst, eSeq, eOpt, eSl, eIx, dIx, dIxS, seqD, gtN, gtTup, gtCons, gtNil, eItv, iterD, eRg1, eRg2, rg1, rg2, eZip, both, eEnum, eIn, eNotIn, wipeE, eSortR, bSorted, lsD, hln, hd, hlen, hs, bTuple]
theorem dec_sum : ∀ {r : List Nat}, (∀ p ∈ r, 1 ≤ p) → ((r.filter fun p => decide (1 < p)).map fun p => p - 1).sum + r.length = r.sum
  | [], _ => rfl
  | p :: r, h => by
    have ih := dec_sum (r := r) fun q hq => h q (List.mem_cons_of_mem _ hq)
    have hp := h p (List.mem_cons_self ..)
    by_cases h1 : 1 < p
    · rw [List.filter_cons_of_pos (by simpa using h1), List.map_cons, List.sum_cons, List.sum_cons, List.length_cons]; omega
    · rw [List.filter_cons_of_neg (by simpa using h1), List.sum_cons, List.length_cons]; omega
theorem step_row {n : Nat} {r : List Nat} (h : Row n r) : Row n (step r) where
  fall := isort_falling _
  pos := fun p hp => by
    have hp := (isort_perm geN _).mem_iff.mp hp
    rcases List.mem_append.mp hp with hp | hp
    · obtain ⟨q, hq, rfl⟩ := List.mem_map.mp hp
      have := of_decide_eq_true (List.mem_filter.mp hq).2
      omega
    · split at hp
      · cases hp
      · rename_i hr
        rw [List.mem_singleton] at hp
        subst hp
        cases r with
        | nil => exact absurd rfl hr
        | cons a b => simp
  sum := by
    unfold step
    rw [(isort_perm geN _).sum_nat]
    have := dec_sum h.pos
    by_cases hr : r = []
    · subst hr; exact h.sum
    · rw [if_neg hr, List.sum_append, ← h.sum]
      simpa using this
def placesF : Nat → List (List Nat) → List (D × D)
  | _, [] => []
  | k, r :: t => (rowD r, .int (k : Nat)) :: placesF (k + 1) t
theorem atomsEq_nats : ∀ a b : List Nat, atomsEq (natsD a) (natsD b) = decide (a = b)
  | [], [] => rfl
  | [], _ :: _ => rfl
  | _ :: _, [] => rfl
  | x :: xs, y :: ys => by
    show (decide (((x : Nat) : Int) = ((y : Nat) : Int)) && atomsEq (natsD xs) (natsD ys)) = _
    rw [atomsEq_nats xs ys]
    by_cases h1 : x = y <;> by_cases h2 : xs = ys <;> simp [h1, h2]
    omega
theorem keyEq_row (a b : List Nat) : keyEq (rowD a) (rowD b) = decide (a = b) := atomsEq_nats a b
theorem toKeys_nats : ∀ l : List Nat, (toIntsX (natsD l)).isSome = true
  | [] => rfl
  | n :: l => by
    have := toKeys_nats l
    show ((toIntsX (natsD l)).map ((n : Int) :: ·)).isSome = true
    rw [Option.isSome_map]; exact this
theorem look_places (x : List Nat) : ∀ (k : Nat) (met : List (List Nat)), dkLook (placesF k met) (rowD x) = if x ∈ met then some (.int ((k + met.idxOf x : Nat) : Nat)) else none
  | k, [] => rfl
  | k, r :: t => by
    unfold placesF dkLook
    rw [keyEq_row, look_places x (k + 1) t]
    by_cases h : r = x
    · subst h; simp
    · rw [if_neg (by simpa using h)]
      have hx : x ≠ r := fun z => h z.symm
      by_cases ht : x ∈ t
      · rw [if_pos ht, if_pos (List.mem_cons_of_mem _ ht), List.idxOf_cons]
        have hb : (r == x) = false := beq_eq_false_iff_ne.mpr h
        rw [hb, show k + 1 + t.idxOf x = k + (t.idxOf x + 1) by omega]
        rfl
      · rw [if_neg ht, if_neg (by simp [hx, ht])]
theorem any_places (x : List Nat) : ∀ (k : Nat) (met : List (List Nat)), ((placesF k met).any fun kv => keyEq kv.1 (rowD x)) = decide (x ∈ met)
  | k, [] => by simp [placesF]
  | k, r :: t => by
    unfold placesF
    rw [List.any_cons, any_places x (k + 1) t]
    dsimp only
    rw [keyEq_row]
    by_cases h : r = x <;> by_cases ht : x ∈ t <;> simp [h, ht, eq_comm]
    intro z; exact absurd z.symm h
theorem places_snoc (x : List Nat) : ∀ (k : Nat) (met : List (List Nat)), placesF k (met ++ [x]) = placesF k met ++ [(rowD x, .int ((k + met.length : Nat) : Nat))]
  | k, [] => by simp [placesF]
  | k, r :: t => by
    have ih := places_snoc x (k + 1) t
    show (rowD r, D.int (k : Nat)) :: placesF (k + 1) (t ++ [x]) = _
    rw [ih]
    rw [show k + 1 + t.length = k + (r :: t).length by rw [List.length_cons]; omega]
    rfl
theorem places_length : ∀ (k : Nat) (met : List (List Nat)), (placesF k met).length = met.length
  | _, [] => rfl
  | k, r :: t => by unfold placesF; rw [List.length_cons, List.length_cons, places_length (k + 1) t]
/-- the rows met until one comes again -/
def run : Nat → List (List Nat) → List Nat → Option (List (List Nat) × List Nat)
  | 0, _, _ => none
  | f + 1, met, here => if here ∈ met then some (met, here) else run f (met ++ [here]) (step here)
def runE (row : List Nat) (met : List (List Nat)) (here : List Nat) : Ev := [.frz (rowD row), .own (.lst (met.map rowD)), .frz (rowD here), .own (.dct (placesF 0 met))]
theorem dIn_places (x : List Nat) (met : List (List Nat)) : dIn (rowD x) (.dct (placesF 0 met)) = some (decide (x ∈ met)) := by
  have hk : isDk (.dct (placesF 0 met)) = true := rfl
  unfold dIn
  rw [if_pos hk]
  have : dGet (.dct (placesF 0 met)) (rowD x) = some (if x ∈ met then some (.int ((0 + met.idxOf x : Nat) : Nat)) else none) := by
    unfold dGet rowD
    dsimp only
    rw [if_pos (toKeys_nats x)]
    have := look_places x 0 met
    unfold rowD at this
    rw [this]
  rw [this]
  by_cases h : x ∈ met <;> simp [h]
theorem run_loop (w : Wd) (row : List Nat) {n : Nat} (hn : n ≤ 200) : ∀ (f N : Nat) (met : List (List Nat)) (here : List Nat) (m : List (List Nat)) (h : List Nat), run f met here = some (m, h) → f ≤ N → met.length + f ≤ 1000000 → Row n here →
    sWhile (eNotIn (vP 2) (vP 3)) b_run_in_1 N (runE row met here) w = .nx (runE row m h) w
  | 0, N, met, here, m, h, e, _, _, _ => by cases e
  | f + 1, N, met, here, m, h, e, hN, hm, hr => by
    obtain ⟨N, rfl⟩ : ∃ M, N = M + 1 := ⟨N - 1, by omega⟩
    unfold run at e
    by_cases hh : here ∈ met
    · rw [if_pos hh] at e
      cases e
      refine while_false ?_
      unfold runE
      have := dIn_places here met
      rw [decide_eq_true hh] at this
      unfold eNotIn eBind M.bind
      simp [vP, this, M.ofOption]
    · rw [if_neg hh] at e
      have c : eNotIn (vP 2) (vP 3) (runE row met here) w = .ok true w := by
        unfold runE
        have := dIn_places here met
        rw [decide_eq_false hh] at this
        unfold eNotIn eBind M.bind
        simp [vP, this, M.ofOption]
      have b : b_run_in_1 (runE row met here) w = .nx (runE row (met ++ [here]) (step here)) w := by
        unfold b_run_in_1 runE
        have hs := f_stepped w hr hn
        have hput : dkPut (placesF 0 met) (rowD here) (.int ((met.length : Nat) : Int)) = placesF 0 (met ++ [here]) := by
          unfold dkPut
          rw [any_places, decide_eq_false hh, if_neg (by simp), places_snoc]
          simp
        have hk := toKeys_nats here
        have hl : (placesF 0 met).length < sizeLine := by rw [places_length, sizeL]; omega
        have hl2 : met.length < sizeLine := by rw [sizeL]; omega
        have hpd : putD (.dct (placesF 0 met)) (rowD here) (.int ((met.length : Nat) : Int)) = some (.dct (placesF 0 (met ++ [here]))) := by
          unfold putD
          have e : rowD here = .tup (natsD here) := rfl
          rw [e]
          dsimp only
          rw [if_pos ⟨hk, hl⟩, ← e, hput]
        have hln : bLenS [.lst (met.map rowD)] = some (.int ((met.length : Nat) : Int)) := by
          unfold bLenS seqD
          simp
        have hml : (met.map rowD).length < sizeLine := by rw [List.length_map]; exact hl2
        have hmm : met.map rowD ++ [rowD here] = (met ++ [here]).map rowD := by simp
        generalize rowD here = hd at hs hpd hmm ⊢
        generalize placesF 0 (met ++ [here]) = pl at hpd ⊢
        generalize List.map rowD (met ++ [here]) = ml at hmm ⊢
        generalize List.map rowD met = m0 at hln hml hmm ⊢
        rw [seq_nx (w1 := w) (Γ1 := [.frz (rowD row), .own (.lst m0), .frz hd, .own (.dct pl)]) (by
          unfold sPut R.on
          have e1 : eCl bLenS (eCons (vP 1) eNil) [.frz (rowD row), .own (.lst m0), .frz hd, .own (.dct (placesF 0 met))] w = .ok (.int ((met.length : Nat) : Int)) w := by simp [sRet, sRetN, sSet, sSetN, sSetS, sPar, sPar3, sTgt, sIf, sDrop, sStuck, sBrk, sCnt, sNil, sFreeze, frzAt, sSeq, SO.seq, R.on, sPut, sPutAt, known, putD, sChgL, hApp, hExt, sAugN, sPop, eFz, eOw, eD, eAnd, eOr, eNotB, eIf, eBind, M.bind, eBl, eTru, eCall, eCl, eCons, eNil, eApp, vF, vP, startE, ePure, toB, M.ofOption, M.pure, eChain, eUn, dNeg, eOp, eTup, eLst, eSeq, eOpt, eSl, eIx, dIx, dIxS, seqD, gtN, gtTup, gtCons, gtNil, eItv, iterD, eRg1, eRg2, rg1, rg2, eZip, both, eEnum, eIn, eNotIn, wipeE, hln]
          rw [e1]
          dsimp only
          have e2 : known 3 [.frz (rowD row), .own (.lst m0), .frz hd, .own (.dct (placesF 0 met))] = true := rfl
          rw [if_pos e2]
          unfold sPutAt
          simp [vP, hpd])]
        rw [seq_nx (w1 := w) (Γ1 := [.frz (rowD row), .own (.lst ml), .frz hd, .own (.dct pl)]) (by
          unfold sChgL R.on
          simp [vF, hApp, hml, hmm])]
        unfold sSet R.on
        have e3 : eCall F_stepped_in (eCons (vF 2) eNil) [.frz (rowD row), .own (.lst ml), .frz hd, .own (.dct pl)] w = .ok (rowD (step here)) w := by simp [sRet, sRetN, sSet, sSetN, sSetS, sPar, sPar3, sTgt, sIf, sDrop, sStuck, sBrk, sCnt, sNil, sFreeze, frzAt, sSeq, SO.seq, R.on, sPut, sPutAt, known, putD, sChgL, hApp, hExt, sAugN, sPop, eFz, eOw, eD, eAnd, eOr, eNotB, eIf, eBind, M.bind, eBl, eTru, eCall, eCl, eCons, eNil, eApp, vF, vP, startE, ePure, toB, M.ofOption, M.pure, eChain, eUn, dNeg, eOp, eTup, eLst, eSeq, eOpt, eSl, eIx, dIx, dIxS, seqD, gtN, gtTup, gtCons, gtNil, eItv, iterD, eRg1, eRg2, rg1, rg2, eZip, both, eEnum, eIn, eNotIn, wipeE, hs]
        rw [e3]; rfl
      rw [while_true c b]
      exact run_loop w row hn f N _ _ m h e (by omega) (by rw [List.length_append]; simp only [List.length_cons, List.length_nil]; omega) (step_row hr)
theorem sl_to (ds : List D) (i : Nat) (h : i ≤ ds.length) : dSlL (.lst ds) none (some (i : Nat)) = some (.lst (ds.take i)) := by
  unfold dSlL cutD
  dsimp only
  rw [HT.sIx_none, HT.sIx_nat, Nat.min_eq_left h, List.drop_zero, Nat.sub_zero]
theorem sl_from (ds : List D) (i : Nat) (h : i ≤ ds.length) : dSlL (.lst ds) (some (i : Nat)) none = some (.lst (ds.drop i)) := by
  unfold dSlL cutD
  dsimp only
  rw [HT.sIx_none, HT.sIx_nat, Nat.min_eq_left h, List.take_of_length_le (by rw [List.length_drop]; exact Nat.le_refl _)]
theorem run_mem : ∀ (f : Nat) (met : List (List Nat)) (here : List Nat) {m : List (List Nat)} {h : List Nat}, run f met here = some (m, h) → h ∈ m
  | 0, _, _, _, _, e => by cases e
  | f + 1, met, here, m, h, e => by
    unfold run at e
    split at e
    · rename_i hh; cases e; exact hh
    · exact run_mem f _ _ e
theorem ix_places (w : Wd) (x : List Nat) (met : List (List Nat)) (h : x ∈ met) : dIx w (.dct (placesF 0 met)) (rowD x) = some (.int ((met.idxOf x : Nat) : Int)) := by
  have : dGet (.dct (placesF 0 met)) (rowD x) = some (if x ∈ met then some (.int ((0 + met.idxOf x : Nat) : Nat)) else none) := by
    unfold dGet rowD
    dsimp only
    rw [if_pos (toKeys_nats x)]
    have := look_places x 0 met
    unfold rowD at this
    rw [this]
  unfold dIx
  dsimp only
  rw [this, if_pos h, Nat.zero_add]
  rfl
theorem f_run_in (w : Wd) {n : Nat} {r : List Nat} (hr : Row n r) (hn : n ≤ 200) {f : Nat} {m : List (List Nat)} {h : List Nat} (e : run f [] r = some (m, h)) (hf : f ≤ 100000) :
    F_run_in [rowD r] w = .ok (.tup [.lst ((m.take (m.idxOf h)).map rowD), .lst ((m.drop (m.idxOf h)).map rowD)]) w := by
  refine defOf_ret ?_
  unfold g_run_in
  have l := run_loop w r hn f 100000 [] r m h e hf (by simp; omega) hr
  rw [seq_nx (w1 := w) (Γ1 := runE r [] r) (by
    simp [sRet, sRetN, sSet, sSetN, sSetS, sPar, sPar3, sTgt, sIf, sDrop, sStuck, sBrk, sCnt, sNil, sFreeze, frzAt, sSeq, SO.seq, R.on, sPut, sPutAt, known, putD, sChgL, hApp, hExt, sAugN, sPop, eFz, eOw, eD, eAnd, eOr, eNotB, eIf, eBind, M.bind, eBl, eTru, eCall, eCl, eCons, eNil, eApp, vF, vP, startE, ePure, toB, M.ofOption, M.pure, eChain, eUn, dNeg, eOp, eTup, eLst, eSeq, eOpt, eSl, eIx, dIx, dIxS, seqD, gtN, gtTup, gtCons, gtNil, eItv, iterD, eRg1, eRg2, rg1, rg2, eZip, both, eEnum, eIn, eNotIn, wipeE, sizeL, runE, placesF])]
  rw [seq_nx l]
  have hm := run_mem f [] r e
  have hx := ix_places w h m hm
  have hi : m.idxOf h ≤ (m.map rowD).length := by rw [List.length_map]; exact List.idxOf_le_length
  have s1 := sl_to (m.map rowD) _ hi
  have s2 := sl_from (m.map rowD) _ hi
  rw [← List.map_take] at s1
  rw [← List.map_drop] at s2
  unfold runE
  generalize List.map rowD (m.take (m.idxOf h)) = a1 at s1 ⊢
  generalize List.map rowD (m.drop (m.idxOf h)) = a2 at s2 ⊢
  generalize List.map rowD m = a0 at s1 s2 ⊢
  generalize placesF 0 m = pl at hx ⊢
  generalize rowD h = hd at hx ⊢
  unfold sRet eTup eCons eBind M.bind eSl eOpt eIx
  simp [eBind, M.bind, vP, ePure, M.ofOption, hx, s1, s2, R.on, eNil, sizeL]
theorem f_part_row (w : Wd) {n : Nat} {r : List Nat} (hr : Row n r) (hn : n ≤ 200) : F_is_part_row [rowD r, .int 1, .int 200] w = .ok (.bl true) w := by
  refine defOf_ret ?_
  unfold g_is_part_row
  have hl := hr.len
  have hc := comp_pure (tg := gtN 3) (tt := ePure true) (te := eCall F_is_within (eCons (vF 3) (eCons (vF 1) (eCons (vF 2) eNil)))) (Γ := wipeE (startE 4 [rowD r, .int 1, .int 200]) [3]) (w := w) (fun n : Nat => D.int (n : Nat)) (fun _ => true) (fun _ => D.bl true) r (fun p hp => ⟨_, rfl, rfl, fun _ => by
    have h1 := hr.pos p hp
    have h2 := hr.le p hp
    have e1 : decide ((1 : Int) ≤ (p : Nat)) = true := decide_eq_true (by omega)
    have e2 : decide (((p : Nat) : Int) ≤ 200) = true := decide_eq_true (by omega)
    have := f_is_within (p : Nat) 1 200 w
    rw [e1, e2] at this
    simp [sRet, sRetN, sSet, sSetN, sSetS, sPar, sPar3, sTgt, sIf, sDrop, sStuck, sBrk, sCnt, sNil, sFreeze, frzAt, sSeq, SO.seq, R.on, sPut, sPutAt, known, putD, sChgL, hApp, hExt, sAugN, sPop, eFz, eOw, eD, eAnd, eOr, eNotB, eIf, eBind, M.bind, eBl, eTru, eCall, eCl, eCons, eNil, eApp, vF, vP, startE, ePure, toB, M.ofOption, M.pure, eChain, eUn, dNeg, eOp, eTup, eLst, eSeq, eOpt, eSl, eIx, dIx, dIxS, seqD, gtN, gtTup, gtCons, gtNil, eItv, iterD, eRg1, eRg2, rg1, rg2, eZip, both, eEnum, eIn, eNotIn, wipeE, this]⟩)
  have hcomp := eComp_of (vs := [3]) (fi := eSeq (vP 0)) (Γ := startE 4 [rowD r, .int 1, .int 200]) (w := w) (w1 := w) (ds := natsD r) (by rfl) (by rw [List.length_map, sizeL]; omega) hc
  rw [filt_true] at hcomp
  have ha := all_true r
  have hf := f_falling w hr hn
  have e0 : sIf (eOr (eNotB (eTru (eD (eIsi "tuple" (vP 0))))) (eNotB (eTru (eCl bAll (eCons (eComp (eSeq (vP 0)) [3] (gtN 3) (ePure true) (eCall F_is_within (eCons (vF 3) (eCons (vF 1) (eCons (vF 2) eNil))))) eNil))))) (sRet (ePure (.bl false))) sNil (startE 4 [rowD r, .int 1, .int 200]) w = .nx (startE 4 [rowD r, .int 1, .int 200]) w := by
    have t1 : eTru (eD (eIsi "tuple" (vP 0))) (startE 4 [rowD r, .int 1, .int 200]) w = .ok true w := rfl
    have t2 : eTru (eCl bAll (eCons (eComp (eSeq (vP 0)) [3] (gtN 3) (ePure true) (eCall F_is_within (eCons (vF 3) (eCons (vF 1) (eCons (vF 2) eNil))))) eNil)) (startE 4 [rowD r, .int 1, .int 200]) w = .ok true w := by
      generalize eComp (eSeq (vP 0)) [3] (gtN 3) (ePure true) (eCall F_is_within (eCons (vF 3) (eCons (vF 1) (eCons (vF 2) eNil)))) = E at hcomp ⊢
      generalize startE 4 [rowD r, .int 1, .int 200] = Γ at hcomp ⊢
      simp [sRet, sRetN, sSet, sSetN, sSetS, sPar, sPar3, sTgt, sIf, sDrop, sStuck, sBrk, sCnt, sNil, sFreeze, frzAt, sSeq, SO.seq, R.on, sPut, sPutAt, known, putD, sChgL, hApp, hExt, sAugN, sPop, eFz, eOw, eD, eAnd, eOr, eNotB, eIf, eBind, M.bind, eBl, eTru, eCall, eCl, eCons, eNil, eApp, vF, vP, startE, ePure, toB, M.ofOption, M.pure, eChain, eUn, dNeg, eOp, eTup, eLst, eSeq, eOpt, eSl, eIx, dIx, dIxS, seqD, gtN, gtTup, gtCons, gtNil, eItv, iterD, eRg1, eRg2, rg1, rg2, eZip, both, eEnum, eIn, eNotIn, wipeE, hcomp, ha, dTru]
    unfold sIf eOr eNotB R.on
    simp only [eBind, M.bind, t1, t2, ePure, Bool.not_true, if_false, Bool.false_eq_true, sNil]
  rw [seq_nx e0]
  unfold sRet R.on
  have e1 : eCall F_is_falling (eCons (vF 0) eNil) (startE 4 [rowD r, .int 1, .int 200]) w = .ok (.bl true) w := by
    generalize rowD r = x at hf ⊢
    simp [sRet, sRetN, sSet, sSetN, sSetS, sPar, sPar3, sTgt, sIf, sDrop, sStuck, sBrk, sCnt, sNil, sFreeze, frzAt, sSeq, SO.seq, R.on, sPut, sPutAt, known, putD, sChgL, hApp, hExt, sAugN, sPop, eFz, eOw, eD, eAnd, eOr, eNotB, eIf, eBind, M.bind, eBl, eTru, eCall, eCl, eCons, eNil, eApp, vF, vP, startE, ePure, toB, M.ofOption, M.pure, eChain, eUn, dNeg, eOp, eTup, eLst, eSeq, eOpt, eSl, eIx, dIx, dIxS, seqD, gtN, gtTup, gtCons, gtNil, eItv, iterD, eRg1, eRg2, rg1, rg2, eZip, both, eEnum, eIn, eNotIn, wipeE, hf]
  rw [e1]
theorem f_is_row (w : Wd) {n : Nat} {r : List Nat} (hr : Row n r) (hn : n ≤ 200) : F_is_row_in [rowD r] w = .ok (.bl true) w := by
  refine defOf_ret ?_
  unfold g_is_row_in
  have h1 := f_part_row w hr hn
  have h2 := bSum_row r
  rw [hr.sum] at h2
  have h3 : ((n : Nat) : Int) ≤ 200 := by omega
  generalize rowD r = x at h1 h2 ⊢
  simp [sRet, sRetN, sSet, sSetN, sSetS, sPar, sPar3, sTgt, sIf, sDrop, sStuck, sBrk, sCnt, sNil, sFreeze, frzAt, sSeq, SO.seq, R.on, sPut, sPutAt, known, putD, sChgL, hApp, hExt, sAugN, sPop, eFz, eOw, eD, eAnd, eOr, eNotB, eIf, eBind, M.bind, eBl, eTru, eCall, eCl, eCons, eNil, eApp, vF, vP, startE, ePure, toB, M.ofOption, M.pure, eChain, eUn, dNeg, eOp, eTup, eLst, eSeq, eOpt, eSl, eIx, dIx, dIxS, seqD, gtN, gtTup, gtCons, gtNil, eItv, iterD, eRg1, eRg2, rg1, rg2, eZip, both, eEnum, eIn, eNotIn, wipeE, h1, h2, oLe, dLe, h3]
theorem f_req_row (w : Wd) {n : Nat} {r : List Nat} (hr : Row n r) (hn : n ≤ 200) : F_require_row [rowD r] w = .ok .non w := by
  refine defOf_nx (Γ := startE 1 [rowD r]) ?_
  unfold g_require_row
  have h1 := f_is_row w hr hn
  generalize rowD r = x at h1 ⊢
  simp [sRet, sRetN, sSet, sSetN, sSetS, sPar, sPar3, sTgt, sIf, sDrop, sStuck, sBrk, sCnt, sNil, sFreeze, frzAt, sSeq, SO.seq, R.on, sPut, sPutAt, known, putD, sChgL, hApp, hExt, sAugN, sPop, eFz, eOw, eD, eAnd, eOr, eNotB, eIf, eBind, M.bind, eBl, eTru, eCall, eCl, eCons, eNil, eApp, vF, vP, startE, ePure, toB, M.ofOption, M.pure, eChain, eUn, dNeg, eOp, eTup, eLst, eSeq, eOpt, eSl, eIx, dIx, dIxS, seqD, gtN, gtTup, gtCons, gtNil, eItv, iterD, eRg1, eRg2, rg1, rg2, eZip, both, eEnum, eIn, eNotIn, wipeE, h1, dTru]
theorem dec_filter (r : List Nat) : ((r.map fun p => p - 1) ++ [r.length]).filter (fun p => decide (0 < p)) = ((r.filter fun p => decide (1 < p)).map fun p => p - 1) ++ (if r = [] then [] else [r.length]) := by
  rw [List.filter_append]
  congr 1
  · rw [List.filter_map]
    congr 1
    apply List.filter_congr
    intro p _
    simp only [Function.comp]
    by_cases h : 1 < p
    · rw [decide_eq_true h, decide_eq_true (by omega)]
    · rw [decide_eq_false h, decide_eq_false (by omega)]
  · cases r with
    | nil => rfl
    | cons a b => rw [if_neg (by simp)]; rfl
theorem f_law_step (w : Wd) {n : Nat} {r : List Nat} (hr : Row n r) (hn : n ≤ 200) : F__law_step [rowD r] w = .ok (rowD (step r)) w := by
  refine defOf_ret ?_
  unfold g__law_step
  have hl := hr.len
  have hc := comp_pure (tg := gtN 2) (tt := ePure true) (te := eOp dSub (vP 2) (ePure (.int 1))) (Γ := wipeE (startE 3 [rowD r]) [2]) (w := w) (fun n : Nat => D.int (n : Nat)) (fun _ => true) (fun p => D.int ((p - 1 : Nat) : Nat)) r (fun p hp => ⟨_, rfl, rfl, fun _ => by
    have h1 := hr.pos p hp
    simp [sRet, sRetN, sSet, sSetN, sSetS, sPar, sPar3, sTgt, sIf, sDrop, sStuck, sBrk, sCnt, sNil, sFreeze, frzAt, sSeq, SO.seq, R.on, sPut, sPutAt, known, putD, sChgL, hApp, hExt, sAugN, sPop, eFz, eOw, eD, eAnd, eOr, eNotB, eIf, eBind, M.bind, eBl, eTru, eCall, eCl, eCons, eNil, eApp, vF, vP, startE, ePure, toB, M.ofOption, M.pure, eChain, eUn, dNeg, eOp, eTup, eLst, eSeq, eOpt, eSl, eIx, dIx, dIxS, seqD, gtN, gtTup, gtCons, gtNil, eItv, iterD, eRg1, eRg2, rg1, rg2, eZip, both, eEnum, eIn, eNotIn, wipeE, dSub]
    omega⟩)
  have hcomp := eComp_of (vs := [2]) (fi := eSeq (vP 0)) (Γ := startE 3 [rowD r]) (w := w) (w1 := w) (ds := natsD r) (by rfl) (by rw [List.length_map, sizeL]; omega) hc
  rw [filt_true] at hcomp
  have hln : bLenS [rowD r] = some (.int ((r.length : Nat) : Int)) := by
    unfold bLenS rowD seqD
    simp
  have hadd : lAdd (.lst (r.map fun p => D.int ((p - 1 : Nat) : Nat))) (.lst [.int (r.length : Nat)]) = some (.lst (natsD ((r.map fun p => p - 1) ++ [r.length]))) := by
    unfold lAdd
    dsimp only
    rw [if_pos (by rw [List.length_map, sizeL]; simp; omega)]
    simp [natsD, Function.comp_def]
  have e1 : sSet 1 (eOp lAdd (eComp (eSeq (vP 0)) [2] (gtN 2) (ePure true) (eOp dSub (vP 2) (ePure (.int 1)))) (eLst (eCons (eCl bLenS (eCons (vP 0) eNil)) eNil))) (startE 3 [rowD r]) w = .nx [.frz (rowD r), .frz (.lst (natsD ((r.map fun p => p - 1) ++ [r.length]))), .no] w := by
    generalize eComp (eSeq (vP 0)) [2] (gtN 2) (ePure true) (eOp dSub (vP 2) (ePure (.int 1))) = E at hcomp ⊢
    have hΓ : startE 3 [rowD r] = [.frz (rowD r), .no, .no] := rfl
    rw [hΓ] at hcomp ⊢
    generalize natsD ((r.map fun p => p - 1) ++ [r.length]) = x at hadd ⊢
    generalize rowD r = y at hcomp hln ⊢
    generalize (r.map fun p => D.int ((p - 1 : Nat) : Nat)) = z at hcomp hadd
    simp [sRet, sRetN, sSet, sSetN, sSetS, sPar, sPar3, sTgt, sIf, sDrop, sStuck, sBrk, sCnt, sNil, sFreeze, frzAt, sSeq, SO.seq, R.on, sPut, sPutAt, known, putD, sChgL, hApp, hExt, sAugN, sPop, eFz, eOw, eD, eAnd, eOr, eNotB, eIf, eBind, M.bind, eBl, eTru, eCall, eCl, eCons, eNil, eApp, vF, vP, startE, ePure, toB, M.ofOption, M.pure, eChain, eUn, dNeg, eOp, eTup, eLst, eSeq, eOpt, eSl, eIx, dIx, dIxS, seqD, gtN, gtTup, gtCons, gtNil, eItv, iterD, eRg1, eRg2, rg1, rg2, eZip, both, eEnum, eIn, eNotIn, wipeE, hcomp, hln, hadd, sizeL]
  rw [seq_nx e1]
  have hst : step r = isort geN (((r.map fun p => p - 1) ++ [r.length]).filter fun p => decide (0 < p)) := by rw [dec_filter]; rfl
  rw [hst]
  have hlen : ((r.map fun p => p - 1) ++ [r.length]).length ≤ 201 := by rw [List.length_append, List.length_map]; simp; omega
  generalize ((r.map fun p => p - 1) ++ [r.length]) = zs at hlen ⊢
  have hc2 := comp_pure (tg := gtN 2) (tt := eBl (eOp oGt (vP 2) (ePure (.int 0)))) (te := vF 2) (Γ := wipeE [.frz (rowD r), .frz (.lst (natsD zs)), .no] [2]) (w := w) (fun n : Nat => D.int (n : Nat)) (fun p => decide (0 < p)) (fun p => D.int (p : Nat)) zs (fun p hp => ⟨_, rfl, by simp [sRet, sRetN, sSet, sSetN, sSetS, sPar, sPar3, sTgt, sIf, sDrop, sStuck, sBrk, sCnt, sNil, sFreeze, frzAt, sSeq, SO.seq, R.on, sPut, sPutAt, known, putD, sChgL, hApp, hExt, sAugN, sPop, eFz, eOw, eD, eAnd, eOr, eNotB, eIf, eBind, M.bind, eBl, eTru, eCall, eCl, eCons, eNil, eApp, vF, vP, startE, ePure, toB, M.ofOption, M.pure, eChain, eUn, dNeg, eOp, eTup, eLst, eSeq, eOpt, eSl, eIx, dIx, dIxS, seqD, gtN, gtTup, gtCons, gtNil, eItv, iterD, eRg1, eRg2, rg1, rg2, eZip, both, eEnum, eIn, eNotIn, wipeE, oGt, dGt], fun _ => rfl⟩)
  have hcomp2 := eComp_of (vs := [2]) (fi := eSeq (vP 1)) (Γ := [.frz (rowD r), .frz (.lst (natsD zs)), .no]) (w := w) (w1 := w) (ds := natsD zs) (by rfl) (by rw [List.length_map, sizeL]; omega) hc2
  have hd := e_desc hcomp2 (by
    have := List.length_filter_le (fun p => decide (0 < p)) zs
    rw [sizeL]; omega)
  unfold sRet R.on
  rw [hd]
theorem req_num0 (w : Wd) (k a : Int) (h1 : a ≤ k) (h3 : -1000 < k) (h4 : k < 1000) : F_require_number [.int k, .int a, .non] w = .ok .non w := by
  refine defOf_nx (Γ := startE 3 [.int k, .int a, .non]) ?_
  unfold g_require_number
  have hn := f_is_near k w ⟨by omega, by omega⟩
  have g1 : ¬ k < a := by omega
  simp [sRet, sRetN, sSet, sSetN, sSetS, sPar, sPar3, sTgt, sIf, sDrop, sStuck, sBrk, sCnt, sNil, sFreeze, frzAt, sSeq, SO.seq, R.on, sPut, sPutAt, known, putD, sChgL, hApp, hExt, sAugN, sPop, eFz, eOw, eD, eAnd, eOr, eNotB, eIf, eBind, M.bind, eBl, eTru, eCall, eCl, eCons, eNil, eApp, vF, vP, startE, ePure, toB, M.ofOption, M.pure, eChain, eUn, dNeg, eOp, eTup, eLst, eSeq, eOpt, eSl, eIx, dIx, dIxS, seqD, gtN, gtTup, gtCons, gtNil, eItv, iterD, eRg1, eRg2, rg1, rg2, eZip, both, eEnum, eIn, eNotIn, wipeE, hn, dTru, dIsNot, dIs, dIsN, dIsB, isNon, bNot, oLt, dLt, oGt, dGt, g1]
/-- what steps lead to -/
def tailT (m : List (List Nat)) (h : List Nat) : List (List Nat) := m.take (m.idxOf h)
def ringT (m : List (List Nat)) (h : List Nat) : List (List Nat) := m.drop (m.idxOf h)
def it (f : List Nat → List Nat) : Nat → List Nat → List Nat
  | 0, r => r
  | t + 1, r => it f t (f r)

end LW

set_option Elab.async false
set_option linter.all false
set_option maxRecDepth 100000
set_option maxHeartbeats 4000000
namespace LW
open PySem DL
theorem it_row {n : Nat} : ∀ (t : Nat) {r : List Nat}, Row n r → Row n (it step t r)
  | 0, r, h => h
  | t + 1, r, h => it_row t (step_row h)
theorem it_add (f : List Nat → List Nat) : ∀ (a b : Nat) (r : List Nat), it f (a + b) r = it f b (it f a r)
  | 0, b, r => by rw [Nat.zero_add]; rfl
  | a + 1, b, r => by rw [show a + 1 + b = (a + b) + 1 by omega]; exact it_add f a b (f r)
theorem it_period {f : List Nat → List Nat} {x : List Nat} {j : Nat} (h : it f j x = x) : ∀ k : Nat, it f (k * j) x = x
  | 0 => by rw [Nat.zero_mul]; rfl
  | k + 1 => by rw [Nat.succ_mul, it_add, it_period h k, h]
/-! ### how many rows a size has -/
def tabP : List (List Nat) := [[1, 0, 0, 0, 0, 0, 0, 0, 0, 0, 0, 0, 0, 0, 0, 0, 0, 0, 0, 0, 0, 0, 0, 0, 0, 0, 0, 0, 0, 0, 0, 0, 0, 0, 0, 0, 0, 0, 0, 0, 0],
  [1, 1, 1, 1, 1, 1, 1, 1, 1, 1, 1, 1, 1, 1, 1, 1, 1, 1, 1, 1, 1, 1, 1, 1, 1, 1, 1, 1, 1, 1, 1, 1, 1, 1, 1, 1, 1, 1, 1, 1, 1],
  [1, 1, 2, 2, 3, 3, 4, 4, 5, 5, 6, 6, 7, 7, 8, 8, 9, 9, 10, 10, 11, 11, 12, 12, 13, 13, 14, 14, 15, 15, 16, 16, 17, 17, 18, 18, 19, 19, 20, 20, 21],
  [1, 1, 2, 3, 4, 5, 7, 8, 10, 12, 14, 16, 19, 21, 24, 27, 30, 33, 37, 40, 44, 48, 52, 56, 61, 65, 70, 75, 80, 85, 91, 96, 102, 108, 114, 120, 127, 133, 140, 147, 154],
  [1, 1, 2, 3, 5, 6, 9, 11, 15, 18, 23, 27, 34, 39, 47, 54, 64, 72, 84, 94, 108, 120, 136, 150, 169, 185, 206, 225, 249, 270, 297, 321, 351, 378, 411, 441, 478, 511, 551, 588, 632],
  [1, 1, 2, 3, 5, 7, 10, 13, 18, 23, 30, 37, 47, 57, 70, 84, 101, 119, 141, 164, 192, 221, 255, 291, 333, 377, 427, 480, 540, 603, 674, 748, 831, 918, 1014, 1115, 1226, 1342, 1469, 1602, 1747],
  [1, 1, 2, 3, 5, 7, 11, 14, 20, 26, 35, 44, 58, 71, 90, 110, 136, 163, 199, 235, 282, 331, 391, 454, 532, 612, 709, 811, 931, 1057, 1206, 1360, 1540, 1729, 1945, 2172, 2432, 2702, 3009, 3331, 3692],
  [1, 1, 2, 3, 5, 7, 11, 15, 21, 28, 38, 49, 65, 82, 105, 131, 164, 201, 248, 300, 364, 436, 522, 618, 733, 860, 1009, 1175, 1367, 1579, 1824, 2093, 2400, 2738, 3120, 3539, 4011, 4526, 5102, 5731, 6430],
  [1, 1, 2, 3, 5, 7, 11, 15, 22, 29, 40, 52, 70, 89, 116, 146, 186, 230, 288, 352, 434, 525, 638, 764, 919, 1090, 1297, 1527, 1801, 2104, 2462, 2857, 3319, 3828, 4417, 5066, 5812, 6630, 7564, 8588, 9749],
  [1, 1, 2, 3, 5, 7, 11, 15, 22, 30, 41, 54, 73, 94, 123, 157, 201, 252, 318, 393, 488, 598, 732, 887, 1076, 1291, 1549, 1845, 2194, 2592, 3060, 3589, 4206, 4904, 5708, 6615, 7657, 8824, 10156, 11648, 13338],
  [1, 1, 2, 3, 5, 7, 11, 15, 22, 30, 42, 55, 75, 97, 128, 164, 212, 267, 340, 423, 530, 653, 807, 984, 1204, 1455, 1761, 2112, 2534, 3015, 3590, 4242, 5013, 5888, 6912, 8070, 9418, 10936, 12690, 14663, 16928],
  [1, 1, 2, 3, 5, 7, 11, 15, 22, 30, 42, 56, 76, 99, 131, 169, 219, 278, 355, 445, 560, 695, 863, 1060, 1303, 1586, 1930, 2331, 2812, 3370, 4035, 4802, 5708, 6751, 7972, 9373, 11004, 12866, 15021, 17475, 20298],
  [1, 1, 2, 3, 5, 7, 11, 15, 22, 30, 42, 56, 77, 100, 133, 172, 224, 285, 366, 460, 582, 725, 905, 1116, 1380, 1686, 2063, 2503, 3036, 3655, 4401, 5262, 6290, 7476, 8877, 10489, 12384, 14552, 17084, 19978, 23334],
  [1, 1, 2, 3, 5, 7, 11, 15, 22, 30, 42, 56, 77, 101, 134, 174, 227, 290, 373, 471, 597, 747, 935, 1158, 1436, 1763, 2164, 2637, 3210, 3882, 4691, 5635, 6761, 8073, 9624, 11424, 13542, 15988, 18847, 22142, 25971],
  [1, 1, 2, 3, 5, 7, 11, 15, 22, 30, 42, 56, 77, 101, 135, 175, 229, 293, 378, 478, 608, 762, 957, 1188, 1478, 1819, 2241, 2738, 3345, 4057, 4920, 5928, 7139, 8551, 10232, 12186, 14499, 17176, 20325, 23961, 28212],
  [1, 1, 2, 3, 5, 7, 11, 15, 22, 30, 42, 56, 77, 101, 135, 176, 230, 295, 381, 483, 615, 773, 972, 1210, 1508, 1861, 2297, 2815, 3446, 4192, 5096, 6158, 7434, 8932, 10715, 12801, 15272, 18148, 21535, 25469, 30073],
  [1, 1, 2, 3, 5, 7, 11, 15, 22, 30, 42, 56, 77, 101, 135, 176, 231, 296, 383, 486, 620, 780, 983, 1225, 1530, 1891, 2339, 2871, 3523, 4293, 5231, 6334, 7665, 9228, 11098, 13287, 15892, 18928, 22518, 26694, 31603],
  [1, 1, 2, 3, 5, 7, 11, 15, 22, 30, 42, 56, 77, 101, 135, 176, 231, 297, 384, 488, 623, 785, 990, 1236, 1545, 1913, 2369, 2913, 3579, 4370, 5332, 6469, 7841, 9459, 11395, 13671, 16380, 19551, 23303, 27684, 32839],
  [1, 1, 2, 3, 5, 7, 11, 15, 22, 30, 42, 56, 77, 101, 135, 176, 231, 297, 385, 489, 625, 788, 995, 1243, 1556, 1928, 2391, 2943, 3621, 4426, 5409, 6570, 7976, 9635, 11626, 13968, 16765, 20040, 23928, 28472, 33834],
  [1, 1, 2, 3, 5, 7, 11, 15, 22, 30, 42, 56, 77, 101, 135, 176, 231, 297, 385, 490, 626, 790, 998, 1248, 1563, 1939, 2406, 2965, 3651, 4468, 5465, 6647, 8077, 9770, 11802, 14199, 17062, 20425, 24418, 29098, 34624],
  [1, 1, 2, 3, 5, 7, 11, 15, 22, 30, 42, 56, 77, 101, 135, 176, 231, 297, 385, 490, 627, 791, 1000, 1251, 1568, 1946, 2417, 2980, 3673, 4498, 5507, 6703, 8154, 9871, 11937, 14375, 17293, 20722, 24803, 29588, 35251],
  [1, 1, 2, 3, 5, 7, 11, 15, 22, 30, 42, 56, 77, 101, 135, 176, 231, 297, 385, 490, 627, 792, 1001, 1253, 1571, 1951, 2424, 2991, 3688, 4520, 5537, 6745, 8210, 9948, 12038, 14510, 17469, 20953, 25100, 29973, 35741],
  [1, 1, 2, 3, 5, 7, 11, 15, 22, 30, 42, 56, 77, 101, 135, 176, 231, 297, 385, 490, 627, 792, 1002, 1254, 1573, 1954, 2429, 2998, 3699, 4535, 5559, 6775, 8252, 10004, 12115, 14611, 17604, 21129, 25331, 30270, 36126],
  [1, 1, 2, 3, 5, 7, 11, 15, 22, 30, 42, 56, 77, 101, 135, 176, 231, 297, 385, 490, 627, 792, 1002, 1255, 1574, 1956, 2432, 3003, 3706, 4546, 5574, 6797, 8282, 10046, 12171, 14688, 17705, 21264, 25507, 30501, 36423],
  [1, 1, 2, 3, 5, 7, 11, 15, 22, 30, 42, 56, 77, 101, 135, 176, 231, 297, 385, 490, 627, 792, 1002, 1255, 1575, 1957, 2434, 3006, 3711, 4553, 5585, 6812, 8304, 10076, 12213, 14744, 17782, 21365, 25642, 30677, 36654],
  [1, 1, 2, 3, 5, 7, 11, 15, 22, 30, 42, 56, 77, 101, 135, 176, 231, 297, 385, 490, 627, 792, 1002, 1255, 1575, 1958, 2435, 3008, 3714, 4558, 5592, 6823, 8319, 10098, 12243, 14786, 17838, 21442, 25743, 30812, 36830],
  [1, 1, 2, 3, 5, 7, 11, 15, 22, 30, 42, 56, 77, 101, 135, 176, 231, 297, 385, 490, 627, 792, 1002, 1255, 1575, 1958, 2436, 3009, 3716, 4561, 5597, 6830, 8330, 10113, 12265, 14816, 17880, 21498, 25820, 30913, 36965],
  [1, 1, 2, 3, 5, 7, 11, 15, 22, 30, 42, 56, 77, 101, 135, 176, 231, 297, 385, 490, 627, 792, 1002, 1255, 1575, 1958, 2436, 3010, 3717, 4563, 5600, 6835, 8337, 10124, 12280, 14838, 17910, 21540, 25876, 30990, 37066],
  [1, 1, 2, 3, 5, 7, 11, 15, 22, 30, 42, 56, 77, 101, 135, 176, 231, 297, 385, 490, 627, 792, 1002, 1255, 1575, 1958, 2436, 3010, 3718, 4564, 5602, 6838, 8342, 10131, 12291, 14853, 17932, 21570, 25918, 31046, 37143],
  [1, 1, 2, 3, 5, 7, 11, 15, 22, 30, 42, 56, 77, 101, 135, 176, 231, 297, 385, 490, 627, 792, 1002, 1255, 1575, 1958, 2436, 3010, 3718, 4565, 5603, 6840, 8345, 10136, 12298, 14864, 17947, 21592, 25948, 31088, 37199],
  [1, 1, 2, 3, 5, 7, 11, 15, 22, 30, 42, 56, 77, 101, 135, 176, 231, 297, 385, 490, 627, 792, 1002, 1255, 1575, 1958, 2436, 3010, 3718, 4565, 5604, 6841, 8347, 10139, 12303, 14871, 17958, 21607, 25970, 31118, 37241],
  [1, 1, 2, 3, 5, 7, 11, 15, 22, 30, 42, 56, 77, 101, 135, 176, 231, 297, 385, 490, 627, 792, 1002, 1255, 1575, 1958, 2436, 3010, 3718, 4565, 5604, 6842, 8348, 10141, 12306, 14876, 17965, 21618, 25985, 31140, 37271],
  [1, 1, 2, 3, 5, 7, 11, 15, 22, 30, 42, 56, 77, 101, 135, 176, 231, 297, 385, 490, 627, 792, 1002, 1255, 1575, 1958, 2436, 3010, 3718, 4565, 5604, 6842, 8349, 10142, 12308, 14879, 17970, 21625, 25996, 31155, 37293],
  [1, 1, 2, 3, 5, 7, 11, 15, 22, 30, 42, 56, 77, 101, 135, 176, 231, 297, 385, 490, 627, 792, 1002, 1255, 1575, 1958, 2436, 3010, 3718, 4565, 5604, 6842, 8349, 10143, 12309, 14881, 17973, 21630, 26003, 31166, 37308],
  [1, 1, 2, 3, 5, 7, 11, 15, 22, 30, 42, 56, 77, 101, 135, 176, 231, 297, 385, 490, 627, 792, 1002, 1255, 1575, 1958, 2436, 3010, 3718, 4565, 5604, 6842, 8349, 10143, 12310, 14882, 17975, 21633, 26008, 31173, 37319],
  [1, 1, 2, 3, 5, 7, 11, 15, 22, 30, 42, 56, 77, 101, 135, 176, 231, 297, 385, 490, 627, 792, 1002, 1255, 1575, 1958, 2436, 3010, 3718, 4565, 5604, 6842, 8349, 10143, 12310, 14883, 17976, 21635, 26011, 31178, 37326],
  [1, 1, 2, 3, 5, 7, 11, 15, 22, 30, 42, 56, 77, 101, 135, 176, 231, 297, 385, 490, 627, 792, 1002, 1255, 1575, 1958, 2436, 3010, 3718, 4565, 5604, 6842, 8349, 10143, 12310, 14883, 17977, 21636, 26013, 31181, 37331],
  [1, 1, 2, 3, 5, 7, 11, 15, 22, 30, 42, 56, 77, 101, 135, 176, 231, 297, 385, 490, 627, 792, 1002, 1255, 1575, 1958, 2436, 3010, 3718, 4565, 5604, 6842, 8349, 10143, 12310, 14883, 17977, 21637, 26014, 31183, 37334],
  [1, 1, 2, 3, 5, 7, 11, 15, 22, 30, 42, 56, 77, 101, 135, 176, 231, 297, 385, 490, 627, 792, 1002, 1255, 1575, 1958, 2436, 3010, 3718, 4565, 5604, 6842, 8349, 10143, 12310, 14883, 17977, 21637, 26015, 31184, 37336],
  [1, 1, 2, 3, 5, 7, 11, 15, 22, 30, 42, 56, 77, 101, 135, 176, 231, 297, 385, 490, 627, 792, 1002, 1255, 1575, 1958, 2436, 3010, 3718, 4565, 5604, 6842, 8349, 10143, 12310, 14883, 17977, 21637, 26015, 31185, 37337],
  [1, 1, 2, 3, 5, 7, 11, 15, 22, 30, 42, 56, 77, 101, 135, 176, 231, 297, 385, 490, 627, 792, 1002, 1255, 1575, 1958, 2436, 3010, 3718, 4565, 5604, 6842, 8349, 10143, 12310, 14883, 17977, 21637, 26015, 31185, 37338]]
def tb (m n : Nat) : Nat := (tabP.getD m []).getD n 0
theorem tb_ok : ((List.range 41).all fun n => Nat.beq (tb 0 n) (if n = 0 then 1 else 0)) = true ∧ ((List.range 40).all fun m => (List.range 41).all fun n => Nat.beq (tb (m + 1) n) (tb m n + if m + 1 ≤ n then tb (m + 1) (n - (m + 1)) else 0)) = true := by decide +kernel
theorem tb_le : ((List.range 41).all fun n => Nat.ble (tb 40 n) 40000) = true := by decide +kernel
def En : Nat → Nat → Nat → List (List Nat)
  | 0, n, _ => if n = 0 then [[]] else []
  | _ + 1, n, 0 => if n = 0 then [[]] else []
  | f + 1, n, m + 1 => En f n m ++ if m + 1 ≤ n then (En f (n - (m + 1)) (m + 1)).map ((m + 1) :: ·) else []
theorem En_len : ∀ (f n m : Nat), n + m ≤ f → n ≤ 40 → m ≤ 40 → (En f n m).length = tb m n
  | 0, n, m, h, h1, h2 => by
    obtain ⟨rfl, rfl⟩ : n = 0 ∧ m = 0 := by omega
    rfl
  | f + 1, n, 0, h, h1, h2 => by
    have := List.all_eq_true.mp tb_ok.1 n (List.mem_range.mpr (by omega))
    rw [Nat.eq_of_beq_eq_true this]
    unfold En
    split <;> rfl
  | f + 1, n, m + 1, h, h1, h2 => by
    have := List.all_eq_true.mp (List.all_eq_true.mp tb_ok.2 m (List.mem_range.mpr (by omega))) n (List.mem_range.mpr (by omega))
    rw [Nat.eq_of_beq_eq_true this]
    unfold En
    rw [List.length_append, En_len f n m (by omega) h1 (by omega)]
    congr 1
    split
    · rw [List.length_map, En_len f (n - (m + 1)) (m + 1) (by omega) (by omega) h2]
    · rfl
theorem En_mem : ∀ (f n m : Nat) (r : List Nat), n + m ≤ f → Falling r → (∀ p ∈ r, 1 ≤ p) → (∀ p ∈ r, p ≤ m) → r.sum = n → r ∈ En f n m
  | 0, n, m, r, h, _, h1, h2, hs => by
    cases r with
    | nil => simp at hs; subst hs; simp [En]
    | cons a t =>
      have := h1 a (List.mem_cons_self ..)
      have := h2 a (List.mem_cons_self ..)
      omega
  | f + 1, n, 0, r, h, _, h1, h2, hs => by
    cases r with
    | nil => simp at hs; subst hs; simp [En]
    | cons a t =>
      have := h1 a (List.mem_cons_self ..)
      have := h2 a (List.mem_cons_self ..)
      omega
  | f + 1, n, m + 1, r, h, hf, h1, h2, hs => by
    unfold En
    rw [List.mem_append]
    cases r with
    | nil => exact .inl (En_mem f n m [] (by omega) hf h1 (fun p hp => by cases hp) hs)
    | cons a t =>
      have ha := h2 a (List.mem_cons_self ..)
      have hc := List.pairwise_cons.mp hf
      rw [List.sum_cons] at hs
      by_cases e : a = m + 1
      · subst e
        right
        rw [if_pos (by omega)]
        exact List.mem_map.mpr ⟨t, En_mem f (n - (m + 1)) (m + 1) t (by omega) hc.2 (fun p hp => h1 p (List.mem_cons_of_mem _ hp)) (fun p hp => h2 p (List.mem_cons_of_mem _ hp)) (by omega), rfl⟩
      · left
        refine En_mem f n m (a :: t) (by omega) hf h1 (fun p hp => ?_) (by rw [List.sum_cons]; omega)
        rcases List.mem_cons.mp hp with rfl | hp
        · omega
        · have : p ≤ a := hc.1 p hp
          omega
theorem nodup_le : ∀ (L M : List (List Nat)), L.Nodup → (∀ x ∈ L, x ∈ M) → L.length ≤ M.length
  | [], _, _, _ => Nat.zero_le _
  | a :: L, M, hn, h => by
    have hc := List.nodup_cons.mp hn
    have ha := h a (List.mem_cons_self ..)
    have := nodup_le L (M.erase a) hc.2 fun x hx => by
      have hne : x ≠ a := fun e => hc.1 (e ▸ hx)
      exact (List.mem_erase_of_ne hne).mpr (h x (List.mem_cons_of_mem _ hx))
    have e := List.length_erase_of_mem ha
    have hp := List.length_pos_of_mem ha
    rw [List.length_cons]; omega
theorem rows_few {n : Nat} (hn : n ≤ 40) {L : List (List Nat)} (hd : L.Nodup) (h : ∀ x ∈ L, Row n x) : L.length ≤ 40000 := by
  have h1 := nodup_le L (En 80 n 40) hd fun x hx => En_mem 80 n 40 x (by omega) (h x hx).fall (h x hx).pos (fun p hp => by have := (h x hx).le p hp; omega) (h x hx).sum
  rw [En_len 80 n 40 (by omega) hn (by omega)] at h1
  have := Nat.le_of_ble_eq_true (List.all_eq_true.mp tb_le n (List.mem_range.mpr (by omega)))
  omega
theorem run_none {n : Nat} : ∀ (f : Nat) (met : List (List Nat)) (here : List Nat), (∀ x ∈ met, Row n x) → Row n here → met.Nodup → run f met here = none → ∃ L : List (List Nat), L.Nodup ∧ L.length = met.length + f ∧ ∀ x ∈ L, Row n x
  | 0, met, _, h, _, hd, _ => ⟨met, hd, rfl, h⟩
  | f + 1, met, here, h, hh, hd, e => by
    unfold run at e
    split at e
    · cases e
    · rename_i hm
      obtain ⟨L, g1, g2, g3⟩ := run_none f (met ++ [here]) (step here) (fun x hx => by
        rcases List.mem_append.mp hx with hx | hx
        · exact h x hx
        · rw [List.mem_singleton] at hx; subst hx; exact hh) (step_row hh) (List.nodup_append.mpr ⟨hd, by simp, fun a ha b hb => by
          rw [List.mem_singleton] at hb
          rintro rfl
          exact hm (hb ▸ ha)⟩) e
      exact ⟨L, g1, by rw [g2, List.length_append]; simp; omega, g3⟩
theorem it_succ (f : List Nat → List Nat) (t : Nat) (r : List Nat) : it f (t + 1) r = f (it f t r) := by
  rw [it_add f t 1 r]; rfl
theorem run_spec (r : List Nat) : ∀ (f : Nat) (met : List (List Nat)) (here : List Nat) (m : List (List Nat)) (h : List Nat), run f met here = some (m, h) → met = (List.range met.length).map (fun j => it step j r) → here = it step met.length r →
    m = (List.range m.length).map (fun j => it step j r) ∧ h = it step m.length r ∧ h ∈ m ∧ m.length ≤ met.length + f
  | 0, _, _, _, _, e, _, _ => by cases e
  | f + 1, met, here, m, h, e, h1, h2 => by
    unfold run at e
    split at e
    · rename_i hm
      cases e
      exact ⟨h1, h2, hm, by omega⟩
    · have hl : (met ++ [here]).length = met.length + 1 := by simp
      have := run_spec r f (met ++ [here]) (step here) m h e (by
        rw [hl, List.range_succ, List.map_append, ← h1]
        simp [h2]) (by rw [hl, it_succ, ← h2])
      rw [hl] at this
      obtain ⟨g1, g2, g3, g4⟩ := this
      exact ⟨g1, g2, g3, by omega⟩
theorem run_ex {n : Nat} (hn : n ≤ 40) {r : List Nat} (hr : Row n r) : ∃ (m : List (List Nat)) (h : List Nat), run 40001 [] r = some (m, h) ∧ m = (List.range m.length).map (fun j => it step j r) ∧ h = it step m.length r ∧ h ∈ m ∧ m.length ≤ 40001 := by
  cases e : run 40001 [] r with
  | none =>
    obtain ⟨L, g1, g2, g3⟩ := run_none 40001 [] r (fun x hx => by cases hx) hr List.nodup_nil e
    have := rows_few hn g1 g3
    simp at g2
    omega
  | some p =>
    obtain ⟨m, h⟩ := p
    have := run_spec r 40001 [] r m h e rfl rfl
    simp only [List.length_nil, Nat.zero_add] at this
    exact ⟨m, h, rfl, this⟩

end LW

set_option Elab.async false
set_option linter.all false
set_option maxRecDepth 100000
set_option maxHeartbeats 4000000
namespace LW
open PySem DL
theorem kb (k : Nat) : (-1000000000000000000000000000000000000000000000000000000000000 : Int) < (k : Nat) := Int.lt_of_lt_of_le (by decide) (Int.natCast_nonneg k)
theorem kb2 (w : Wd) {k : Nat} (hk : (k : Int) < 1000000000000000000000000000000000000000000000000000000000000) : F_is_near [.int (k : Nat)] w = .ok (.bl true) w := f_is_near (k : Nat) w ⟨kb k, hk⟩
theorem req_k' (w : Wd) {z : Int} (hn : F_is_near [.int z] w = .ok (.bl true) w) (g1 : ¬ z < 0) : F_require_number [.int z, .int 0, .non] w = .ok .non w := by
  refine defOf_nx (Γ := startE 3 [.int z, .int 0, .non]) ?_
  unfold g_require_number
  simp [sRet, sRetN, sSet, sSetN, sSetS, sPar, sPar3, sTgt, sIf, sDrop, sStuck, sBrk, sCnt, sNil, sFreeze, frzAt, sSeq, SO.seq, R.on, sPut, sPutAt, known, putD, sChgL, hApp, hExt, sAugN, sPop, eFz, eOw, eD, eAnd, eOr, eNotB, eIf, eBind, M.bind, eBl, eTru, eCall, eCl, eCons, eNil, eApp, vF, vP, startE, ePure, toB, M.ofOption, M.pure, eChain, eUn, dNeg, eOp, eTup, eLst, eSeq, eOpt, eSl, eIx, dIx, dIxS, seqD, gtN, gtTup, gtCons, gtNil, eItv, iterD, eRg1, eRg2, rg1, rg2, eZip, both, eEnum, eIn, eNotIn, wipeE, hn, dTru, dIsNot, dIs, dIsN, dIsB, isNon, bNot, oLt, dLt, oGt, dGt, g1]
theorem req_k (w : Wd) {k : Nat} (hk : (k : Int) < 1000000000000000000000000000000000000000000000000000000000000) : F_require_number [.int (k : Nat), .int 0, .non] w = .ok .non w := by
  refine req_k' w (kb2 w hk) ?_
  clear hk
  omega
/-- where a row's steps come again: a the tail's length, b the round's -/
structure Ring (n : Nat) (r : List Nat) (a b : Nat) (w : Wd) : Prop where
  pos : 0 < b
  few : a + b ≤ 40001
  per : it step b (it step a r) = it step a r
  run : F_run_in [rowD r] w = .ok (.tup [.lst ((List.range a).map fun j => rowD (it step j r)), .lst ((List.range b).map fun j => rowD (it step (a + j) r))]) w
theorem ring_ex (w : Wd) {n : Nat} (hn : n ≤ 40) {r : List Nat} (hr : Row n r) : ∃ a b, Ring n r a b w := by
  obtain ⟨m, h, e, hm, hh, hmem, hl⟩ := run_ex hn hr
  have ha : m.idxOf h < m.length := List.idxOf_lt_length_iff.mpr hmem
  have hat : m[m.idxOf h] = h := List.getElem_idxOf ha
  have hj : ∀ j (hj : j < m.length), m[j] = it step j r := fun j hj => by
    have h1 : ((List.range m.length).map fun j => it step j r)[j]? = some (it step j r) := by
      rw [List.getElem?_map, List.getElem?_range hj]; rfl
    rw [← hm, List.getElem?_eq_getElem hj] at h1
    exact Option.some.inj h1
  have hia : it step (m.idxOf h) r = h := by rw [← hj _ ha]; exact hat
  refine ⟨m.idxOf h, m.length - m.idxOf h, by omega, by omega, ?_, ?_⟩
  · rw [← it_add, show m.idxOf h + (m.length - m.idxOf h) = m.length by omega, ← hh, hia]
  · have := f_run_in w hr (by omega) e (by decide)
    rw [this]
    have e1 : m.take (m.idxOf h) = (List.range (m.idxOf h)).map fun j => it step j r := by
      apply List.ext_getElem
      · rw [List.length_take, List.length_map, List.length_range]; omega
      · intro i h1 h2
        rw [List.getElem_take, List.getElem_map, List.getElem_range, hj]
    have e2 : m.drop (m.idxOf h) = (List.range (m.length - m.idxOf h)).map fun j => it step (m.idxOf h + j) r := by
      apply List.ext_getElem
      · rw [List.length_drop, List.length_map, List.length_range]
      · intro i h1 h2
        rw [List.getElem_drop, List.getElem_map, List.getElem_range, hj]
    rw [e1, e2, List.map_map, List.map_map]
    rfl
theorem per_it {r : List Nat} {a b k : Nat} (h : it step b (it step a r) = it step a r) (hk : ¬ k < a) : it step (a + (k - a) % b) r = it step k r := by
  have hd := Nat.div_add_mod (k - a) b
  have e : a + ((k - a) / b * b + (k - a) % b) = k := by rw [Nat.mul_comm]; omega
  have : it step (a + ((k - a) / b * b + (k - a) % b)) r = it step k r := by rw [e]
  rw [it_add, it_add, it_period h] at this
  rw [it_add]
  exact this
theorem f_often (w : Wd) {n : Nat} (hn : n ≤ 40) {r : List Nat} (hr : Row n r) {k : Nat} (hk : (k : Int) < 1000000000000000000000000000000000000000000000000000000000000) : F_stepped_often [rowD r, .int (k : Nat)] w = .ok (rowD (it step k r)) w := by
  obtain ⟨a, b, R⟩ := ring_ex w hn hr
  have h1 := f_req_row w hr (by omega)
  have h2 := req_k w hk
  clear hk
  have h3 := R.run
  have hp := R.pos
  have l1 : ((List.range a).map fun j => rowD (it step j r)).length = a := by simp
  have l2 : ((List.range b).map fun j => rowD (it step (a + j) r)).length = b := by simp
  have i1 : k < a → ((List.range a).map fun j => rowD (it step j r))[k]? = some (rowD (it step k r)) := fun h => by
    rw [List.getElem?_map, List.getElem?_range h]; rfl
  have i2 : ¬ k < a → ((List.range b).map fun j => rowD (it step (a + j) r))[(k - a) % b]? = some (rowD (it step k r)) := fun h => by
    rw [List.getElem?_map, List.getElem?_range (Nat.mod_lt _ hp)]
    show some (rowD (it step (a + (k - a) % b) r)) = _
    rw [per_it R.per h]
  have h5 : dMod (.int ((k - a : Nat) : Nat)) (.int (b : Nat)) = some (.int (((k - a) % b : Nat) : Nat)) := by
    rw [h_mod (by omega)]; rfl
  generalize ((List.range a).map fun j => rowD (it step j r)) = A at h3 l1 i1
  generalize ((List.range b).map fun j => rowD (it step (a + j) r)) = B at h3 l2 i2
  generalize hx : rowD r = x at h1 h3 ⊢
  have hlt : oLt (.int (k : Nat)) (.int (a : Nat)) = some (.bl (decide (((k : Nat) : Int) < (a : Nat)))) := rfl
  have hlA : bLenS [.lst A] = some (.int (a : Nat)) := by rw [h_lenL, l1]
  have hlB : bLenS [.lst B] = some (.int (b : Nat)) := by rw [h_lenL, l2]
  have hs1 : ¬ k < a → dSub (.int (k : Nat)) (.int (a : Nat)) = some (.int ((k - a : Nat) : Nat)) := fun h => h_subN (by omega)
  have j1 : k < a → dIx w (.lst A) (.int (k : Nat)) = some (rowD (it step k r)) := fun h => h_ixL (i1 h)
  have j2 : ¬ k < a → dIx w (.lst B) (.int (((k - a) % b : Nat) : Nat)) = some (rowD (it step k r)) := fun h => h_ixL (i2 h)
  generalize rowD (it step k r) = res at j1 j2 ⊢
  refine def_ret ?_
  unfold g_stepped_often
  have t0 : eBl (eOp oLt (vP 1) (eCl bLenS (eCons (vP 2) eNil))) [.frz x, .frz (.int (k : Nat)), .frz (.lst A), .frz (.lst B)] w = .ok (decide (((k : Nat) : Int) < (a : Nat))) w := by bv_omega
  refine s_seq (Γ1 := [.frz x, .frz (.int (k : Nat)), .no, .no]) (w1 := w) ?_ (s_seq (Γ1 := [.frz x, .frz (.int (k : Nat)), .no, .no]) (w1 := w) ?_ (s_seq (Γ1 := [.frz x, .frz (.int (k : Nat)), .frz (.lst A), .frz (.lst B)]) (w1 := w) ?_ ?_))
  · refine s_drop (d := .non) ?_
    show eCall _ _ [.frz x, .frz (.int (k : Nat)), .no, .no] w = _
    bv_omega
  · refine s_drop (d := .non) ?_
    bv_omega
  · exact s_tgt (by bv_omega) rfl
  · by_cases hka : k < a
    · have j1 := j1 hka
      rw [decide_eq_true (by omega)] at t0
      exact s_ret (x_if_t t0 (by bv_omega))
    · have j2 := j2 hka
      have hs1 := hs1 hka
      rw [decide_eq_false (by omega)] at t0
      refine s_ret (x_if_f t0 ?_)
      have e1 : eOp dSub (vP 1) (eCl bLenS (eCons (vP 2) eNil)) [.frz x, .frz (.int (k : Nat)), .frz (.lst A), .frz (.lst B)] w = .ok (.int ((k - a : Nat) : Nat)) w := by bv_omega
      have e2 : eOp dMod (eOp dSub (vP 1) (eCl bLenS (eCons (vP 2) eNil))) (eCl bLenS (eCons (vP 3) eNil)) [.frz x, .frz (.int (k : Nat)), .frz (.lst A), .frz (.lst B)] w = .ok (.int (((k - a) % b : Nat) : Nat)) w := by bv_omega
      bv_omega
theorem f_run_of (w : Wd) {n : Nat} (hn : n ≤ 40) {r : List Nat} (hr : Row n r) {a b : Nat} (R : Ring n r a b w) : F_run_of [rowD r] w = .ok (.tup [.tup ((List.range a).map fun j => rowD (it step j r)), .tup ((List.range b).map fun j => rowD (it step (a + j) r))]) w := by
  have h1 := f_req_row w hr (by omega)
  have h3 := R.run
  generalize ((List.range a).map fun j => rowD (it step j r)) = A at h3 ⊢
  generalize ((List.range b).map fun j => rowD (it step (a + j) r)) = B at h3 ⊢
  generalize hx : rowD r = x at h1 h3 ⊢
  refine def_ret ?_
  unfold g_run_of
  refine s_seq (Γ1 := [.frz x, .no, .no]) (w1 := w) ?_ (s_seq (Γ1 := [.frz x, .frz (.lst A), .frz (.lst B)]) (w1 := w) ?_ ?_)
  · refine s_drop (d := .non) ?_
    show eCall _ _ [.frz x, .no, .no] w = _
    bv_omega
  · exact s_tgt (by bv_omega) rfl
  · have t1 : bTuple [.lst A] = some (.tup A) := rfl
    have t2 : bTuple [.lst B] = some (.tup B) := rfl
    bv_omega
end LW

set_option Elab.async false
set_option linter.all false
set_option maxRecDepth 100000
set_option maxHeartbeats 4000000
namespace LW
open PySem DL
/-! ### weights -/
def tri : Nat → Nat
  | 0 => 0
  | p + 1 => tri p + p
def wtI : Nat → List Nat → Nat
  | _, [] => 0
  | i, p :: l => i * p + tri p + wtI (i + 1) l
theorem wtI_mono : ∀ (l : List Nat) (i : Nat), wtI i l ≤ wtI (i + 1) l
  | [], _ => Nat.le_refl _
  | p :: l, i => by
    have := wtI_mono l (i + 1)
    have e : (i + 1) * p = i * p + p := Nat.succ_mul i p
    unfold wtI
    omega
theorem wtI_ins (a : Nat) : ∀ (l : List Nat) (i : Nat), wtI i (insS geN a l) ≤ wtI i (a :: l)
  | [], i => Nat.le_refl _
  | b :: l, i => by
    unfold insS
    split
    · exact Nat.le_refl _
    · rename_i h
      have hab : a < b := by
        have : ¬ b ≤ a := fun z => h (decide_eq_true z)
        omega
      have ih := wtI_ins a l (i + 1)
      have e1 : (i + 1) * a = i * a + a := Nat.succ_mul i a
      have e2 : (i + 1) * b = i * b + b := Nat.succ_mul i b
      unfold wtI at ih ⊢
      unfold wtI
      omega
theorem wtI_sort : ∀ (l : List Nat) (i : Nat), wtI i (isort geN l) ≤ wtI i l
  | [], i => Nat.le_refl _
  | a :: l, i => by
    have h1 := wtI_ins a (isort geN l) i
    have h2 := wtI_sort l (i + 1)
    have e : isort geN (a :: l) = insS geN a (isort geN l) := rfl
    rw [e]
    refine Nat.le_trans h1 ?_
    unfold wtI
    omega
theorem tri_add (a k : Nat) : a * k + tri k + a + k = (a * (k + 1)) + tri (k + 1) := by
  have : a * (k + 1) = a * k + a := Nat.mul_succ a k
  show _ = _ + (tri k + k)
  omega
theorem wtI_dec : ∀ (l : List Nat) (i : Nat), (∀ p ∈ l, 1 ≤ p) → wtI (i + 1) ((l.filter fun p => decide (1 < p)).map fun p => p - 1) + (i * l.length + tri l.length) ≤ wtI i l
  | [], i, _ => by simp [wtI, tri]
  | p :: l, i, h => by
    have hp := h p (List.mem_cons_self ..)
    have ih := wtI_dec l (i + 1) fun q hq => h q (List.mem_cons_of_mem _ hq)
    have e0 : (i + 1) * l.length = i * l.length + l.length := Nat.succ_mul i _
    have e1 : i * (l.length + 1) = i * l.length + i := Nat.mul_succ i _
    have e2 : tri (l.length + 1) = tri l.length + l.length := rfl
    by_cases h1 : 1 < p
    · obtain ⟨q, rfl⟩ : ∃ q, p = q + 1 := ⟨p - 1, by omega⟩
      rw [List.filter_cons_of_pos (by simpa using h1), List.map_cons, List.length_cons]
      have e3 : (i + 1) * q = i * q + q := Nat.succ_mul i q
      have e4 : i * (q + 1) = i * q + i := Nat.mul_succ i q
      have e5 : tri (q + 1) = tri q + q := rfl
      simp only [wtI, Nat.add_sub_cancel]
      omega
    · have : p = 1 := by omega
      subst this
      rw [List.filter_cons_of_neg (by simp), List.length_cons]
      have hm := wtI_mono ((l.filter fun p => decide (1 < p)).map fun p => p - 1) (i + 1)
      have e3 : tri 1 = 0 := rfl
      simp only [wtI]
      omega
theorem geN_total : PySem.W.TotalLe geN := ⟨fun a b c h1 h2 => decide_eq_true (by have := of_decide_eq_true h1; have := of_decide_eq_true h2; omega), fun a b => by
  by_cases h : b ≤ a
  · exact .inl (decide_eq_true h)
  · exact .inr (decide_eq_true (by omega))⟩
theorem geN_uniq {a b : List Nat} (h : a.Perm b) : isort geN a = isort geN b :=
  List.Perm.eq_of_pairwise (le := fun a b => b ≤ a) (fun a b _ _ h1 h2 => by omega) (isort_falling a) (isort_falling b) (((isort_perm geN a).trans h).trans (isort_perm geN b).symm)
theorem step_wt {n : Nat} {r : List Nat} (h : Row n r) : wtI 0 (step r) ≤ wtI 0 r := by
  by_cases hr : r = []
  · subst hr; exact Nat.le_refl _
  · have e : step r = isort geN (r.length :: ((r.filter fun p => decide (1 < p)).map fun p => p - 1)) := by
      unfold step
      rw [if_neg hr]
      exact geN_uniq (List.perm_append_comm (l₂ := [r.length]))
    rw [e]
    refine Nat.le_trans (wtI_sort _ 0) ?_
    have := wtI_dec r 0 h.pos
    show 0 * r.length + tri r.length + wtI (0 + 1) _ ≤ _
    omega
/-! the boxes -/
def bx (p : Nat × Nat) : List (Nat × Nat) := (List.range p.1).map fun j => (p.2, j)
def bxD (q : Nat × Nat) : D := .tup [.int (q.1 : Nat), .int (q.2 : Nat)]
theorem bx_len : ∀ l : List (Nat × Nat), (l.flatMap bx).length = (l.map Prod.fst).sum
  | [] => rfl
  | p :: l => by
    rw [List.flatMap_cons, List.length_append, bx_len l, List.map_cons, List.sum_cons]
    simp [bx]
theorem zipIdx_fst : ∀ (r : List Nat) (i : Nat), (r.zipIdx i).map Prod.fst = r
  | [], _ => rfl
  | p :: r, i => by rw [List.zipIdx_cons, List.map_cons, zipIdx_fst r (i + 1)]
theorem sum_bx (i : Nat) : ∀ p : Nat, ((List.range p).map fun j => i + j).sum = i * p + tri p
  | 0 => rfl
  | p + 1 => by
    rw [List.range_succ, List.map_append, List.sum_append, sum_bx i p]
    have e : i * (p + 1) = i * p + i := Nat.mul_succ i p
    have e2 : tri (p + 1) = tri p + p := rfl
    simp only [List.map_cons, List.map_nil, List.sum_cons, List.sum_nil]
    omega
theorem wt_bx : ∀ (r : List Nat) (i : Nat), (((r.zipIdx i).flatMap bx).map fun q => q.1 + q.2).sum = wtI i r
  | [], _ => rfl
  | p :: r, i => by
    rw [List.zipIdx_cons, List.flatMap_cons, List.map_append, List.sum_append, wt_bx r (i + 1)]
    have : ((bx (p, i)).map fun q => q.1 + q.2).sum = i * p + tri p := by
      unfold bx
      rw [List.map_map]
      exact sum_bx i p
    rw [this]; rfl
theorem box_core {w : Wd} {x y4 : Sl} {A B C : List D} {i p : D} (hcomp : eComp (eRg1 (vF 3)) [4] (gtN 4) (ePure true) (eTup (eCons (vF 2) (eCons (vF 4) eNil))) [x, .own (.lst A), .frz i, .frz p, y4] w = .ok (.lst C) w) (hext : hExt A (.lst C) = some B) :
    b__law_boxes_1 [x, .own (.lst A), .frz i, .frz p, y4] w = .nx [x, .own (.lst B), .frz i, .frz p, y4] w := by
  unfold b__law_boxes_1
  bv_omega
theorem f_boxes (w : Wd) {n : Nat} {r : List Nat} (hr : Row n r) (hn : n ≤ 200) : F__law_boxes [rowD r] w = .ok (.lst ((r.zipIdx.flatMap bx).map bxD)) w := by
  refine def_ret ?_
  unfold g__law_boxes
  have hen : enumD (natsD r) = r.zipIdx.map fun p => D.ftp [.int (p.2 : Nat), .int (p.1 : Nat)] := enum_nats r
  obtain ⟨Γ', w', e, ⟨y2, y3, y4, eΓ, ew⟩⟩ : ∃ Γ' w', sForL (gtTup 2 (gtCons (gtN 2) (gtCons (gtN 3) gtNil))) b__law_boxes_1 (r.zipIdx.map fun p => D.ftp [.int (p.2 : Nat), .int (p.1 : Nat)]) [.frz (rowD r), .own (.lst []), .no, .no, .no] w = .nx Γ' w' ∧ (∃ y2 y3 y4, Γ' = [.frz (rowD r), .own (.lst ((r.zipIdx.flatMap bx).map bxD)), y2, y3, y4] ∧ w' = w) := by
    refine for_ix (tg := gtTup 2 (gtCons (gtN 2) (gtCons (gtN 3) gtNil))) (b := b__law_boxes_1) (fun p : Nat × Nat => D.ftp [.int (p.2 : Nat), .int (p.1 : Nat)])
      (fun ys Γ w1 => ∃ y2 y3 y4, Γ = [.frz (rowD r), .own (.lst ((ys.flatMap bx).map bxD)), y2, y3, y4] ∧ w1 = w) r.zipIdx r.zipIdx [] [.frz (rowD r), .own (.lst []), .no, .no, .no] w rfl ⟨_, _, _, rfl, rfl⟩ ?_
    rintro zs x rest Γ w1 hz ⟨y2, y3, y4, rfl, rfl⟩
    have hx := zipIdx_at hz
    have hs : (zs.map Prod.fst).sum + x.1 ≤ n := by
      have : ((zs ++ x :: rest).map Prod.fst).sum = n := by rw [hz, zipIdx_fst, hr.sum]
      rw [List.map_append, List.sum_append, List.map_cons, List.sum_cons] at this
      omega
    refine ⟨_, [.frz (rowD r), .own (.lst (((zs ++ [x]).flatMap bx).map bxD)), .frz (.int (x.2 : Nat)), .frz (.int (x.1 : Nat)), y4], w1, rfl, ?_, _, _, _, rfl, rfl⟩
    have hrg : rg1 (.int (x.1 : Nat)) = some ((List.range x.1).map fun i => D.int (i : Nat)) := by rw [h_rg1 (by omega), rangeD0]
    have hc := comp_pure (tg := gtN 4) (tt := ePure true) (te := eTup (eCons (vF 2) (eCons (vF 4) eNil))) (Γ := wipeE [.frz (rowD r), .own (.lst ((zs.flatMap bx).map bxD)), .frz (.int (x.2 : Nat)), .frz (.int (x.1 : Nat)), y4] [4]) (w := w1) (fun i : Nat => D.int (i : Nat)) (fun _ => true) (fun j => bxD (x.2, j)) (List.range x.1) (fun j hj => ⟨_, rfl, rfl, fun _ => by
      show eTup _ [.frz (rowD r), .own (.lst ((zs.flatMap bx).map bxD)), .frz (.int (x.2 : Nat)), .frz (.int (x.1 : Nat)), .frz (.int (j : Nat))] w1 = .ok (.tup [.int (x.2 : Nat), .int (j : Nat)]) w1
      bv_omega⟩)
    have hcomp := eComp_of (vs := [4]) (fi := eRg1 (vF 3)) (Γ := [.frz (rowD r), .own (.lst ((zs.flatMap bx).map bxD)), .frz (.int (x.2 : Nat)), .frz (.int (x.1 : Nat)), y4]) (w := w1) (w1 := w1) (by
      show eRg1 (vF 3) [_, _, _, .frz (.int (x.1 : Nat)), _] w1 = .ok ((List.range x.1).map fun i => D.int (i : Nat)) w1
      bv_omega) (by rw [List.length_map, List.length_range, sizeL]; omega) hc
    rw [filt_true] at hcomp
    have hl : (zs.flatMap bx).length = (zs.map Prod.fst).sum := bx_len zs
    have hext : hExt ((zs.flatMap bx).map bxD) (.lst ((List.range x.1).map fun j => bxD (x.2, j))) = some (((zs ++ [x]).flatMap bx).map bxD) := by
      rw [h_ext (by simp only [List.length_map, List.length_range]; omega), List.flatMap_append, List.map_append]
      simp [bx]
    exact box_core hcomp hext
  rw [eΓ, ew] at e
  have e0 : eEnum (vF 0) [.frz (rowD r), .own (.lst []), .no, .no, .no] w = .ok (r.zipIdx.map fun p => D.ftp [.int (p.2 : Nat), .int (p.1 : Nat)]) w := by
    rw [← hen]; rfl
  refine s_seq (Γ1 := [.frz (rowD r), .own (.lst []), .no, .no, .no]) (w1 := w) ?_ (s_seq (Γ1 := [.frz (rowD r), .own (.lst ((r.zipIdx.flatMap bx).map bxD)), y2, y3, y4]) (w1 := w) ?_ ?_)
  · show sSetN 1 (eLst eNil) [.frz (rowD r), .no, .no, .no, .no] w = _
    unfold sSetN R.on
    rw [x_lst x_nil (len_ok (by simp))]
    rfl
  · unfold sFor R.on
    rw [e0]
    exact e
  · bv_omega
theorem f_weight (w : Wd) {n : Nat} {r : List Nat} (hr : Row n r) (hn : n ≤ 200) : F__law_weight [rowD r] w = .ok (.int (wtI 0 r : Nat)) w := by
  refine def_ret ?_
  unfold g__law_weight
  have hb := f_boxes w hr hn
  have hl : (r.zipIdx.flatMap bx).length ≤ 200 := by rw [bx_len, zipIdx_fst, hr.sum]; exact hn
  have hw := wt_bx r 0
  generalize r.zipIdx.flatMap bx = L at hb hl hw
  generalize rowD r = x at hb ⊢
  have hc := comp_pure (tg := gtTup 2 (gtCons (gtN 1) (gtCons (gtN 2) gtNil))) (tt := ePure true) (te := eOp dAdd (vP 1) (vP 2)) (Γ := wipeE (startE 3 [x]) [1, 2]) (w := w) bxD (fun _ => true) (fun q => D.int ((q.1 + q.2 : Nat) : Nat)) L (fun q hq => ⟨_, rfl, rfl, fun _ => by
    show eOp dAdd (vP 1) (vP 2) [.frz x, .frz (.int (q.1 : Nat)), .frz (.int (q.2 : Nat))] w = _
    have ha : dAdd (.int (q.1 : Nat)) (.int (q.2 : Nat)) = some (.int ((q.1 + q.2 : Nat) : Nat)) := rfl
    bv_omega⟩)
  have hcomp := eComp_of (vs := [1, 2]) (fi := eSeq (eCall F__law_boxes (eCons (vF 0) eNil))) (Γ := startE 3 [x]) (w := w) (w1 := w) (by
      show eSeq (eCall F__law_boxes (eCons (vF 0) eNil)) [.frz x, .no, .no] w = .ok (L.map bxD) w
      have hsq : seqD (.lst (L.map bxD)) = some (L.map bxD) := rfl
      bv_omega) (by rw [List.length_map, sizeL]; omega) hc
  rw [filt_true] at hcomp
  have hsum : bSum [.lst (L.map fun q => D.int ((q.1 + q.2 : Nat) : Nat))] = some (.int (wtI 0 r : Nat)) := by
    have := bSum_lst (L.map fun q => q.1 + q.2)
    rw [hw] at this
    rw [← this]
    unfold natsD
    rw [List.map_map]; rfl
  generalize (L.map fun q => D.int ((q.1 + q.2 : Nat) : Nat)) = A at hcomp hsum
  generalize wtI 0 r = z at hsum ⊢
  show sRet _ [.frz x, .no, .no] w = _
  have hcomp : eComp (eSeq (eCall F__law_boxes (eCons (vF 0) eNil))) [1, 2] (gtTup 2 (gtCons (gtN 1) (gtCons (gtN 2) gtNil))) (ePure true) (eOp dAdd (vP 1) (vP 2)) [.frz x, .no, .no] w = .ok (.lst A) w := hcomp
  bv_omega
end LW

set_option Elab.async false
set_option linter.all false
set_option maxRecDepth 100000
set_option maxHeartbeats 4000000
namespace LW
open PySem DL
/-! ### all rows of a size -/
def ext (most : Nat) (s : List Nat × Nat) : List (List Nat × Nat) := (if s.2 = 0 then [(s.1, 0)] else []) ++ (List.range (min s.2 (s.1.getLast?.getD most))).map fun i => (s.1 ++ [i + 1], s.2 - (i + 1))
def itr (most : Nat) : Nat → List (List Nat × Nat) → List (List Nat × Nat)
  | 0, f => f
  | t + 1, f => itr most t (f.flatMap (ext most))
def stD (s : List Nat × Nat) : D := .tup [rowD s.1, .int (s.2 : Nat)]
theorem dEq_rows (a b : List Nat) : dEq (rowD a) (rowD b) = some (.bl (decide (a = b))) := by
  unfold dEq dEqv
  rw [shaped_row, shaped_row, eqv_row]; rfl
theorem dNe_rows (a b : List Nat) : dNe (rowD a) (rowD b) = some (.bl (!decide (a = b))) := by
  unfold dNe dEqv
  rw [shaped_row, shaped_row, eqv_row]; rfl
theorem h_last {w : Wd} {r : List Nat} {p : Nat} (h : r.getLast? = some p) : dIx w (rowD r) (.int (-1)) = some (.int (p : Nat)) := by
  obtain ⟨q, rfl⟩ := List.getLast?_eq_some_iff.mp h
  show L2.atI (natsD (q ++ [p])) (-1) = _
  rw [natsD, List.map_append]
  exact L2.atI_last _ _
theorem rangeD1 (n : Nat) : rangeD 1 n = (List.range n).map fun i => D.int ((i + 1 : Nat) : Int) := by
  unfold rangeD
  apply List.map_congr_left
  intro i _
  congr 1; omega
theorem h_rg2I {i j : Int} (h1 : -1000000000000 < i ∧ i < 1000000000000) (h2 : -1000000000000 < j ∧ j < 1000000000000) : rg2 (.int i) (.int j) = some (rangeD i (j - i).toNat) := by
  have a : in62 i = true := decide_eq_true ⟨by omega, by omega⟩
  have b : in62 j = true := decide_eq_true ⟨by omega, by omega⟩
  show (if (in62 i && in62 j) = true then some (rangeD i (j - i).toNat) else none) = _
  rw [a, b]; rfl
theorem h_rg2 {n : Nat} (h : n < 1000000000) : rg2 (.int 1) (.int ((n : Nat) + 1 : Int)) = some ((List.range n).map fun i => D.int ((i + 1 : Nat) : Int)) := by
  rw [h_rg2I ⟨by omega, by omega⟩ ⟨by omega, by omega⟩, show (((n : Nat) + 1 : Int) - 1).toNat = n by omega, rangeD1]
theorem rows_step (w : Wd) (n : Nat) (hn : n ≤ 100) {x2 x3 x7 x8 : Sl} (s : List Nat × Nat) (later : List (List Nat × Nat)) (h1 : s.2 ≤ 100) (h2 : s.1.length ≤ 100) (h3 : later.length + (ext n s).length ≤ 100000) :
    ∃ y7 y8, b_rows_by_1 [.frz (.int (n : Nat)), .frz (.int (n : Nat)), x2, x3, .own (.lst (later.map stD)), .frz (rowD s.1), .frz (.int (s.2 : Nat)), x7, x8] w = .nx [.frz (.int (n : Nat)), .frz (.int (n : Nat)), x2, x3, .own (.lst ((later ++ ext n s).map stD)), .frz (rowD s.1), .frz (.int (s.2 : Nat)), y7, y8] w := by
  obtain ⟨r, l⟩ := s
  dsimp only at h1 h2 ⊢
  have c0 : eBl (eOp dNe (vP 5) (eTup eNil)) [.frz (.int (n : Nat)), .frz (.int (n : Nat)), x2, x3, .own (.lst (later.map stD)), .frz (rowD r), .frz (.int (l : Nat)), x7, x8] w = .ok (!decide (r = [])) w :=
    x_bl (x_op (x_vP rfl) (x_tup x_nil (len_ok (by simp))) (dNe_rows r []))
  have c1 : eIf (eBl (eOp dNe (vP 5) (eTup eNil))) (eIx (vP 5) (eUn dNeg (ePure (.int 1)))) (vP 1) [.frz (.int (n : Nat)), .frz (.int (n : Nat)), x2, x3, .own (.lst (later.map stD)), .frz (rowD r), .frz (.int (l : Nat)), x7, x8] w = .ok (.int (r.getLast?.getD n : Nat)) w := by
    by_cases hr : r = []
    · subst hr
      rw [decide_eq_true rfl] at c0
      exact x_if_f c0 (x_vP rfl)
    · rw [decide_eq_false hr] at c0
      obtain ⟨p, hp⟩ : ∃ p, r.getLast? = some p := ⟨_, List.getLast?_eq_getLast hr⟩
      have hl := h_last (w := w) hp
      rw [hp]
      refine x_if_t c0 ?_
      show _ = R.ok (D.int (p : Nat)) w
      bv_omega
  generalize hq : r.getLast?.getD n = q at c1
  have hmin : bMin [.int (l : Nat), .int (q : Nat)] = some (.int ((min l q : Nat) : Nat)) := by
    have : bMin [.int (l : Nat), .int (q : Nat)] = some (.int (if ((q : Nat) : Int) < (l : Nat) then (q : Nat) else (l : Nat))) := rfl
    rw [this]
    congr 2
    split <;> omega
  have e1 : sSet 7 (eCl bMin (eCons (vP 6) (eCons (eIf (eBl (eOp dNe (vP 5) (eTup eNil))) (eIx (vP 5) (eUn dNeg (ePure (.int 1)))) (vP 1)) eNil))) [.frz (.int (n : Nat)), .frz (.int (n : Nat)), x2, x3, .own (.lst (later.map stD)), .frz (rowD r), .frz (.int (l : Nat)), x7, x8] w
      = .nx [.frz (.int (n : Nat)), .frz (.int (n : Nat)), x2, x3, .own (.lst (later.map stD)), .frz (rowD r), .frz (.int (l : Nat)), .frz (.int ((min l q : Nat) : Nat)), x8] w := by bv_omega
  have hext : (ext n (r, l)).length = (if l = 0 then 1 else 0) + min l q := by
    unfold ext
    rw [List.length_append, List.length_map, List.length_range, hq]
    split <;> rfl
  have hlen : later.length + (if l = 0 then 1 else 0) + min l q ≤ 100000 := by rw [hext] at h3; omega
  have c2 : eBl (eOp dEq (vP 6) (ePure (.int 0))) [.frz (.int (n : Nat)), .frz (.int (n : Nat)), x2, x3, .own (.lst (later.map stD)), .frz (rowD r), .frz (.int (l : Nat)), .frz (.int ((min l q : Nat) : Nat)), x8] w = .ok (decide (((l : Nat) : Int) = 0)) w := by bv_omega
  have e2 : sIf (eBl (eOp dEq (vP 6) (ePure (.int 0)))) (sChgL 4 hApp (eTup (eCons (vF 5) (eCons (ePure (.int 0)) eNil)))) sNil [.frz (.int (n : Nat)), .frz (.int (n : Nat)), x2, x3, .own (.lst (later.map stD)), .frz (rowD r), .frz (.int (l : Nat)), .frz (.int ((min l q : Nat) : Nat)), x8] w
      = .nx [.frz (.int (n : Nat)), .frz (.int (n : Nat)), x2, x3, .own (.lst ((later ++ (if l = 0 then [(r, 0)] else [])).map stD)), .frz (rowD r), .frz (.int (l : Nat)), .frz (.int ((min l q : Nat) : Nat)), x8] w := by
    by_cases h0 : l = 0
    · rw [decide_eq_true (by omega)] at c2
      rw [if_pos h0] at hlen
      rw [if_pos h0]
      refine s_if_t c2 ?_
      have ha : hApp (later.map stD) (.tup [rowD r, .int 0]) = some ((later ++ [(r, 0)]).map stD) := by
        rw [h_app (by rw [List.length_map]; omega), List.map_append]; rfl
      bv_omega
    · rw [decide_eq_false (by omega)] at c2
      rw [if_neg h0, List.append_nil]
      exact s_if_f c2 s_nil
  have hl2 : (later ++ (if l = 0 then [(r, 0)] else [])).length + min l q ≤ 100000 := by
    rw [List.length_append]
    by_cases h0 : l = 0
    · rw [if_pos h0] at hlen ⊢; simpa using hlen
    · rw [if_neg h0] at hlen ⊢; simpa using hlen
  generalize hla : later ++ (if l = 0 then [(r, 0)] else []) = la at e2 hl2
  have e3 : sChgL 4 hExt (eComp (eRg2 (ePure (.int 1)) (eOp dAdd (vP 7) (ePure (.int 1)))) [8] (gtN 8) (ePure true) (eTup (eCons (eTup (eApp (eSeq (vP 5)) (eCons (vF 8) eNil))) (eCons (eOp dSub (vP 6) (vP 8)) eNil))))
      [.frz (.int (n : Nat)), .frz (.int (n : Nat)), x2, x3, .own (.lst (la.map stD)), .frz (rowD r), .frz (.int (l : Nat)), .frz (.int ((min l q : Nat) : Nat)), x8] w
      = .nx [.frz (.int (n : Nat)), .frz (.int (n : Nat)), x2, x3, .own (.lst ((la ++ (List.range (min l q)).map fun i => (r ++ [i + 1], l - (i + 1))).map stD)), .frz (rowD r), .frz (.int (l : Nat)), .frz (.int ((min l q : Nat) : Nat)), x8] w := by
    have hrg := h_rg2 (n := min l q) (by omega)
    have hc := x_map (fi := eRg2 (ePure (.int 1)) (eOp dAdd (vP 7) (ePure (.int 1)))) (vs := [8]) (tg := gtN 8) (te := eTup (eCons (eTup (eApp (eSeq (vP 5)) (eCons (vF 8) eNil))) (eCons (eOp dSub (vP 6) (vP 8)) eNil)))
      (Γ := [.frz (.int (n : Nat)), .frz (.int (n : Nat)), x2, x3, .own (.lst (la.map stD)), .frz (rowD r), .frz (.int (l : Nat)), .frz (.int ((min l q : Nat) : Nat)), x8]) (w := w) (w1 := w) (fun i : Nat => D.int ((i + 1 : Nat) : Int)) (fun i => stD (r ++ [i + 1], l - (i + 1))) (List.range (min l q)) (by bv_omega) (by rw [List.length_range]; omega) fun i hi => ⟨_, rfl, by
        have hi := List.mem_range.mp hi
        show eTup _ [.frz (.int (n : Nat)), .frz (.int (n : Nat)), x2, x3, .own (.lst (la.map stD)), .frz (rowD r), .frz (.int (l : Nat)), .frz (.int ((min l q : Nat) : Nat)), .frz (.int ((i + 1 : Nat) : Int))] w = .ok (.tup [rowD (r ++ [i + 1]), .int ((l - (i + 1) : Nat) : Nat)]) w
        have hs : dSub (.int (l : Nat)) (.int ((i + 1 : Nat) : Int)) = some (.int ((l - (i + 1) : Nat) : Nat)) := h_subN (by omega)
        have hr : eTup (eApp (eSeq (vP 5)) (eCons (vF 8) eNil)) [.frz (.int (n : Nat)), .frz (.int (n : Nat)), x2, x3, .own (.lst (la.map stD)), .frz (rowD r), .frz (.int (l : Nat)), .frz (.int ((min l q : Nat) : Nat)), .frz (.int ((i + 1 : Nat) : Int))] w = .ok (rowD (r ++ [i + 1])) w := by
          have e : rowD (r ++ [i + 1]) = .tup (natsD r ++ [.int ((i + 1 : Nat) : Int)]) := by simp [rowD, natsD]
          rw [e]
          bv_omega
        bv_omega⟩
    have hx : hExt (la.map stD) (.lst ((List.range (min l q)).map fun i => stD (r ++ [i + 1], l - (i + 1)))) = some ((la ++ (List.range (min l q)).map fun i => (r ++ [i + 1], l - (i + 1))).map stD) := by
      rw [h_ext (by rw [List.length_map, List.length_map, List.length_range]; omega), List.map_append, List.map_map]; rfl
    bv_omega
  have hfin : la ++ (List.range (min l q)).map (fun i => (r ++ [i + 1], l - (i + 1))) = later ++ ext n (r, l) := by
    rw [← hla]
    unfold ext
    rw [hq, List.append_assoc]
  rw [hfin] at e3
  refine ⟨.frz (.int ((min l q : Nat) : Nat)), x8, ?_⟩
  unfold b_rows_by_1
  exact s_seq e1 (s_seq e2 e3)
theorem flat_len {α β : Type} (f : α → List β) : ∀ (a b : List α), (a.flatMap f).length ≤ ((a ++ b).flatMap f).length := fun a b => by
  rw [List.flatMap_append, List.length_append]; omega
theorem rows_turn (w : Wd) (n : Nat) (hn : n ≤ 100) {x3 : Sl} (found : List (List Nat × Nat)) (h1 : ∀ s ∈ found, s.2 ≤ 100 ∧ s.1.length ≤ 100) (h2 : (found.flatMap (ext n)).length ≤ 100000) {y4 y5 y6 y7 y8 : Sl} :
    ∃ z4 z5 z6 z7 z8, b_rows_by_2 [.frz (.int (n : Nat)), .frz (.int (n : Nat)), .frz (.lst (found.map stD)), x3, y4, y5, y6, y7, y8] w = .nx [.frz (.int (n : Nat)), .frz (.int (n : Nat)), .frz (.lst ((found.flatMap (ext n)).map stD)), x3, z4, z5, z6, z7, z8] w := by
  obtain ⟨Γ', w', e, rfl, y5', y6', y7', y8', rfl⟩ := for_ix (tg := gtTup 2 (gtCons (gtN 5) (gtCons (gtN 6) gtNil))) (b := b_rows_by_1) stD
    (fun zs Γ w' => w' = w ∧ ∃ y5 y6 y7 y8, Γ = [.frz (.int (n : Nat)), .frz (.int (n : Nat)), .frz (.lst (found.map stD)), x3, .own (.lst ((zs.flatMap (ext n)).map stD)), y5, y6, y7, y8]) found found []
    [.frz (.int (n : Nat)), .frz (.int (n : Nat)), .frz (.lst (found.map stD)), x3, .own (.lst ((([] : List (List Nat × Nat)).flatMap (ext n)).map stD)), y5, y6, y7, y8] w (by simp) ⟨rfl, _, _, _, _, rfl⟩ (by
    rintro zs s rest Γ w' hz ⟨rfl, y5, y6, y7, y8, rfl⟩
    have hs := h1 s (by rw [← hz]; simp)
    have hl : (zs.flatMap (ext n)).length + (ext n s).length ≤ 100000 := by
      have := flat_len (ext n) (zs ++ [s]) rest
      rw [List.append_assoc, List.singleton_append, hz, List.flatMap_append, List.length_append] at this
      simp only [List.flatMap_cons, List.flatMap_nil, List.append_nil] at this
      omega
    obtain ⟨z7, z8, e⟩ := rows_step w' n hn (x2 := .frz (.lst (found.map stD))) (x3 := x3) (x7 := y7) (x8 := y8) s (zs.flatMap (ext n)) hs.1 hs.2 hl
    refine ⟨_, _, w', rfl, e, rfl, .frz (rowD s.1), .frz (.int (s.2 : Nat)), z7, z8, ?_⟩
    rw [List.flatMap_append]
    simp only [List.flatMap_cons, List.flatMap_nil, List.append_nil])
  refine ⟨.frz (.lst ((found.flatMap (ext n)).map stD)), y5', y6', y7', y8', ?_⟩
  unfold b_rows_by_2
  refine s_seq (Γ1 := [.frz (.int (n : Nat)), .frz (.int (n : Nat)), .frz (.lst (found.map stD)), x3, .own (.lst ((([] : List (List Nat × Nat)).flatMap (ext n)).map stD)), y5, y6, y7, y8]) (w1 := w') ?_ (s_seq (s_for (x_itv (x_vF rfl) h_itL) e) (s_frz rfl ?_))
  · exact s_setN (x_lst x_nil (len_ok (by simp))) rfl
  · exact s_set (x_vF rfl) rfl
def R0 (n : Nat) : List (List Nat × Nat) := itr n n [([], n)]
def Rn (n : Nat) : List (List Nat) := ((R0 n).filter fun s => decide (s.2 = 0)).map Prod.fst
def leL (a b : List Nat) : Bool := sLe false (rowD a) (rowD b)
def SR (n : Nat) : List (List Nat) := isort leL (Rn n)
theorem SR_perm (n : Nat) : (SR n).Perm (Rn n) := isort_perm _ _
def okS (s : List Nat × Nat) : Bool := Nat.ble s.2 100 && Nat.ble s.1.length 100
def okR (n : Nat) : Bool := (List.range n).all (fun t => (itr n t [([], n)]).all okS && Nat.ble (itr n (t + 1) [([], n)]).length 100000) && ((Rn n).all (fun r => !r.isEmpty) || Nat.ble (Rn n).length 1)
theorem itr_succ (most : Nat) : ∀ (t : Nat) (f : List (List Nat × Nat)), itr most (t + 1) f = (itr most t f).flatMap (ext most)
  | 0, f => rfl
  | t + 1, f => by
    show itr most (t + 1) (f.flatMap (ext most)) = (itr most t (f.flatMap (ext most))).flatMap (ext most)
    exact itr_succ most t _
theorem sortOk_rows {L : List (List Nat)} (hl : L.length ≤ 16777216) (hne : L.length ≤ 1 ∨ ∀ r ∈ L, r ≠ []) : sortOk (L.map rowD) = true := by
  unfold sortOk
  have e1 : (L.map rowD).length ≤ sizeLine := by rw [List.length_map, sizeL]; exact hl
  have lv : (L.map rowD).all (isL 1) = true := by
    rw [List.all_eq_true]
    intro d hd
    obtain ⟨r, _, rfl⟩ := List.mem_map.mp hd
    show ((natsD r).all (isL 0)) = true
    rw [List.all_eq_true]
    intro d hd
    obtain ⟨n, _, rfl⟩ := List.mem_map.mp hd
    rfl
  have e2 : alikes (L.map rowD) = true := by
    unfold alikes
    rw [lv]; simp
  have e3 : (L.map rowD).all (fun d => SeqAt.shaped d.toPy && notNon d) = true := by
    rw [List.all_eq_true]
    intro d hd
    obtain ⟨r, _, rfl⟩ := List.mem_map.mp hd
    rw [shaped_row]; rfl
  have e4 : (decide ((L.map rowD).length ≤ 1) || ((L.map rowD).all tupNE || (L.map rowD).all noTup)) = true := by
    rcases hne with h | h
    · rw [List.length_map, decide_eq_true h]; rfl
    · have : (L.map rowD).all tupNE = true := by
        rw [List.all_eq_true]
        intro d hd
        obtain ⟨r, hr, rfl⟩ := List.mem_map.mp hd
        cases r with
        | nil => exact absurd rfl (h _ hr)
        | cons a b => rfl
      rw [this]; simp
  rw [decide_eq_true e1, e2, e3, e4]; rfl
theorem sort_rows {L : List (List Nat)} (hl : L.length ≤ 16777216) (hne : L.length ≤ 1 ∨ ∀ r ∈ L, r ≠ []) : bSortA [.lst (L.map rowD)] = some (.lst ((isort leL L).map rowD)) := by
  have h : bSorted false [.lst (L.map rowD)] = some (.lst ((isort leL L).map rowD)) := by
    show dSort false (L.map rowD) = _
    unfold dSort
    rw [if_pos (sortOk_rows hl hne)]
    congr 2
    exact isort_map rowD (fun _ _ => rfl) L
  unfold bSortA
  rw [h]; rfl
theorem f_rows_by (w : Wd) {n : Nat} (hn : n ≤ 100) (hok : okR n = true) : F_rows_by [.int (n : Nat), .int (n : Nat)] w = .ok (.lst ((SR n).map rowD)) w := by
  unfold okR at hok
  rw [Bool.and_eq_true, List.all_eq_true] at hok
  obtain ⟨k1, k2⟩ := hok
  have k3 : ∀ t, t < n → (∀ s ∈ itr n t [([], n)], s.2 ≤ 100 ∧ s.1.length ≤ 100) ∧ (itr n (t + 1) [([], n)]).length ≤ 100000 := fun t ht => by
    have := k1 t (List.mem_range.mpr ht)
    rw [Bool.and_eq_true, List.all_eq_true] at this
    refine ⟨fun s hs => ?_, Nat.le_of_ble_eq_true this.2⟩
    have := this.1 s hs
    unfold okS at this
    rw [Bool.and_eq_true] at this
    exact ⟨Nat.le_of_ble_eq_true this.1, Nat.le_of_ble_eq_true this.2⟩
  have hlen : (R0 n).length ≤ 100000 := by
    cases n with
    | zero => decide
    | succ m => exact (k3 m (by omega)).2
  refine def_ret ?_
  unfold g_rows_by
  show sSeq _ _ [.frz (.int (n : Nat)), .frz (.int (n : Nat)), .no, .no, .no, .no, .no, .no, .no] w = _
  have e0 : sSet 2 (eLst (eCons (eTup (eCons (eTup eNil) (eCons (vF 0) eNil))) eNil)) [.frz (.int (n : Nat)), .frz (.int (n : Nat)), .no, .no, .no, .no, .no, .no, .no] w = .nx [.frz (.int (n : Nat)), .frz (.int (n : Nat)), .frz (.lst ((itr n 0 [([], n)]).map stD)), .no, .no, .no, .no, .no, .no] w := by
    have : (itr n 0 [([], n)]).map stD = [.tup [.tup [], .int (n : Nat)]] := rfl
    rw [this]
    bv_omega
  obtain ⟨Γ', w', e, rfl, y3, y4, y5, y6, y7, y8, rfl⟩ := for_ix (tg := gtN 3) (b := b_rows_by_2) (fun i : Nat => D.int (i : Nat))
    (fun zs Γ w' => w' = w ∧ ∃ y3 y4 y5 y6 y7 y8, Γ = [.frz (.int (n : Nat)), .frz (.int (n : Nat)), .frz (.lst ((itr n zs.length [([], n)]).map stD)), y3, y4, y5, y6, y7, y8]) (List.range n) (List.range n) []
    [.frz (.int (n : Nat)), .frz (.int (n : Nat)), .frz (.lst ((itr n 0 [([], n)]).map stD)), .no, .no, .no, .no, .no, .no] w (by simp) ⟨rfl, _, _, _, _, _, _, rfl⟩ (by
    rintro zs i rest Γ w' hz ⟨rfl, y3, y4, y5, y6, y7, y8, rfl⟩
    have hzl : zs.length < n := by
      have := congrArg List.length hz
      rw [List.length_append, List.length_cons, List.length_range] at this
      omega
    obtain ⟨q1, q2⟩ := k3 zs.length hzl
    rw [itr_succ] at q2
    obtain ⟨z4, z5, z6, z7, z8, e⟩ := rows_turn w' n hn (x3 := .frz (.int (i : Nat))) (itr n zs.length [([], n)]) q1 q2 (y4 := y4) (y5 := y5) (y6 := y6) (y7 := y7) (y8 := y8)
    refine ⟨_, _, w', rfl, e, rfl, .frz (.int (i : Nat)), z4, z5, z6, z7, z8, ?_⟩
    rw [List.length_append, List.length_singleton, itr_succ])
  rw [List.length_range] at e
  have hrg : rg1 (.int (n : Nat)) = some ((List.range n).map fun i => D.int (i : Nat)) := by rw [h_rg1 (by omega), rangeD0]
  refine s_seq e0 (s_seq (s_for (x_rg1 (x_vF rfl) hrg) e) (s_ret ?_))
  have hc : eComp (eSeq (vP 2)) [5, 6] (gtTup 2 (gtCons (gtN 5) (gtCons (gtN 6) gtNil))) (eBl (eOp dEq (vP 6) (ePure (.int 0)))) (vF 5) [.frz (.int (n : Nat)), .frz (.int (n : Nat)), .frz (.lst ((itr n n [([], n)]).map stD)), y3, y4, y5, y6, y7, y8] w' = .ok (.lst ((Rn n).map rowD)) w' := by
    have := x_comp (fi := eSeq (vP 2)) (vs := [5, 6]) (tg := gtTup 2 (gtCons (gtN 5) (gtCons (gtN 6) gtNil))) (tt := eBl (eOp dEq (vP 6) (ePure (.int 0)))) (te := vF 5) (Γ := [.frz (.int (n : Nat)), .frz (.int (n : Nat)), .frz (.lst ((itr n n [([], n)]).map stD)), y3, y4, y5, y6, y7, y8]) (w := w') (w1 := w')
      stD (fun s => decide (((s.2 : Nat) : Int) = 0)) (fun s => rowD s.1) (itr n n [([], n)]) (x_seq (x_vP rfl) h_seqL) (by have : (R0 n).length ≤ 100000 := hlen; unfold R0 at this; omega) fun s hs => ⟨_, rfl, by
        show eBl _ [.frz (.int (n : Nat)), .frz (.int (n : Nat)), .frz (.lst ((itr n n [([], n)]).map stD)), y3, y4, .frz (rowD s.1), .frz (.int (s.2 : Nat)), y7, y8] w' = _
        bv_omega, fun _ => x_vF rfl⟩
    rw [this]
    unfold Rn R0
    rw [List.map_map]
    have : (fun s : List Nat × Nat => decide (((s.2 : Nat) : Int) = 0)) = fun s => decide (s.2 = 0) := by
      funext s
      exact decide_eq_decide.mpr (by omega)
    rw [this]; rfl
  have hs : bSortA [.lst ((Rn n).map rowD)] = some (.lst ((SR n).map rowD)) := by
    refine sort_rows ?_ ?_
    · have : (Rn n).length ≤ (R0 n).length := by
        unfold Rn
        rw [List.length_map]; exact List.length_filter_le _ _
      omega
    · rw [Bool.or_eq_true, List.all_eq_true] at k2
      rcases k2 with k2 | k2
      · right
        intro r hr
        have := k2 r hr
        cases r with
        | nil => simp at this
        | cons a b => simp
      · left; exact Nat.le_of_ble_eq_true k2
  bv_omega
end LW

set_option Elab.async false
set_option linter.all false
set_option maxRecDepth 100000
set_option maxHeartbeats 4000000
namespace LW
open PySem DL
def ddp (l : List Nat) : List Nat := l.foldl (fun acc n => if n ∈ acc then acc else acc ++ [n]) []
theorem ddp_inv : ∀ (l acc : List Nat), acc.Nodup → (l.foldl (fun acc n => if n ∈ acc then acc else acc ++ [n]) acc).Nodup ∧ ∀ a, a ∈ l.foldl (fun acc n => if n ∈ acc then acc else acc ++ [n]) acc ↔ a ∈ acc ∨ a ∈ l
  | [], acc, h => ⟨h, fun a => by simp⟩
  | n :: l, acc, h => by
    rw [List.foldl_cons]
    by_cases hn : n ∈ acc
    · rw [if_pos hn]
      obtain ⟨h1, h2⟩ := ddp_inv l acc h
      refine ⟨h1, fun a => ?_⟩
      rw [h2, List.mem_cons]
      constructor
      · rintro (z | z)
        · exact .inl z
        · exact .inr (.inr z)
      · rintro (z | z | z)
        · exact .inl z
        · subst z; exact .inl hn
        · exact .inr z
    · rw [if_neg hn]
      obtain ⟨h1, h2⟩ := ddp_inv l (acc ++ [n]) (List.nodup_append.mpr ⟨h, (by simp), fun a ha b hb => by
        rw [List.mem_singleton] at hb
        subst hb
        intro z; subst z; exact hn ha⟩)
      refine ⟨h1, fun a => ?_⟩
      rw [h2, List.mem_append, List.mem_singleton, List.mem_cons, or_assoc]
theorem ddp_nodup (l : List Nat) : (ddp l).Nodup := (ddp_inv l [] List.nodup_nil).1
theorem ddp_mem {l : List Nat} {a : Nat} : a ∈ ddp l ↔ a ∈ l := by
  rw [ddp, (ddp_inv l [] List.nodup_nil).2]; simp
def tkv (l : List Nat) : List (D × D) := l.map fun n => (D.int (n : Nat), D.bl true)
theorem keyEq_int (a b : Nat) : keyEq (.int (a : Nat)) (.int (b : Nat)) = decide (a = b) := by
  have := keyEq_keyD (.inl (a : Int)) (.inl (b : Int))
  have e : decide ((Sum.inl (a : Int) : L2.Key) = Sum.inl (b : Int)) = decide (a = b) := decide_eq_decide.mpr ⟨fun h => by have := Sum.inl.inj h; omega, fun h => by rw [h]⟩
  rw [e] at this
  exact this
theorem put_t (l : List Nat) (n : Nat) : dkPut (tkv l) (.int (n : Nat)) (.bl true) = tkv (if n ∈ l then l else l ++ [n]) := by
  unfold dkPut
  have ha : ((tkv l).any fun kv => keyEq kv.1 (.int (n : Nat))) = decide (n ∈ l) := by
    unfold tkv
    induction l with
    | nil => simp
    | cons a l ih =>
      rw [List.map_cons, List.any_cons, ih, keyEq_int]
      by_cases h1 : a = n <;> by_cases h2 : n ∈ l <;> simp [h1, h2]
      intro z; exact absurd z.symm h1
  rw [ha]
  by_cases h : n ∈ l
  · rw [if_pos (decide_eq_true h), if_pos h]
    unfold tkv
    rw [List.map_map]
    apply List.map_congr_left
    intro a _
    simp only [Function.comp]
    split <;> rfl
  · rw [if_neg (by simpa using h), if_neg h]
    unfold tkv
    rw [List.map_append]; rfl
theorem merge_t : ∀ (l acc : List Nat), dkMerge (tkv acc) (tkv l) = tkv (l.foldl (fun acc n => if n ∈ acc then acc else acc ++ [n]) acc)
  | [], acc => rfl
  | n :: l, acc => by
    show dkMerge (dkPut (tkv acc) (.int (n : Nat)) (.bl true)) (tkv l) = _
    rw [put_t, merge_t l]; rfl
theorem pairs_t : ∀ l : List Nat, pairsD (l.map fun n => D.tup [.int (n : Nat), .bl true]) = some (tkv l)
  | [] => rfl
  | n :: l => by
    rw [List.map_cons]
    show (DL.pairD (D.tup [.int (n : Nat), .bl true])).bind (fun p => (pairsD (l.map fun n => D.tup [.int (n : Nat), .bl true])).map (p :: ·)) = _
    rw [pairs_t l]; rfl
theorem dict_t (l : List Nat) : bDict [.lst (l.map fun n => D.tup [.int (n : Nat), .bl true])] = some (.dck (tkv (ddp l))) := by
  unfold bDict
  show (pairsD (l.map fun n => D.tup [.int (n : Nat), .bl true])).map (fun ps => D.dck (dkMerge [] ps)) = _
  rw [pairs_t]
  show some (D.dck (dkMerge (tkv []) (tkv l))) = _
  rw [merge_t]; rfl
theorem sort_t {l : List Nat} (hl : l.length < 64) : bSortA [.dck (tkv l)] = some (.lst (natsD (isort leN l))) := by
  have e1 : bSorted false [.dck (tkv l)] = none := rfl
  have e2 : (tkv l).map (·.1) = natsD l := by
    unfold tkv natsD
    rw [List.map_map]; rfl
  unfold bSortA
  rw [e1]
  show bSortDI [.dck (tkv l)] = _
  show (intsD ((tkv l).map (·.1))).bind (fun ns => if ns.length < 64 then some (D.lst ((isort (fun a b => decide (a ≤ b)) ns).map D.int)) else none) = _
  rw [e2, intsD_nats]
  simp only [Option.bind_some, List.length_map]
  rw [if_pos hl]
  have : isort (fun (a b : Int) => decide (a ≤ b)) (l.map fun n => ((n : Nat) : Int)) = (isort leN l).map fun n => ((n : Nat) : Int) := isort_map (fun n : Nat => ((n : Nat) : Int)) (fun a b => by
    unfold leN
    exact decide_eq_decide.mpr (by omega)) l
  rw [this, List.map_map]
  rfl
theorem rep1L' {x : D} (z : Int) (h1 : 0 ≤ z) (h2 : z ≤ 100000) : lMul (.lst [x]) (.int z) = some (.lst (List.replicate z.toNat [x]).flatten) := if_pos ⟨by omega, by omega, by rw [sizeL]; simp only [List.length_cons, List.length_nil]; omega⟩
theorem rep1L {x : D} (k : Nat) (hk : k ≤ 100000) : lMul (.lst [x]) (.int (k : Nat)) = some (.lst (List.replicate k x)) := by
  rw [rep1L' _ (by omega) (by omega), Int.toNat_natCast]
  simp
theorem strict_uniq {a b : List Nat} (ha : a.Pairwise (· < ·)) (hb : b.Pairwise (· < ·)) (h : ∀ x, x ∈ a ↔ x ∈ b) : a = b := by
  have na : a.Nodup := ha.imp fun h => Nat.ne_of_lt h
  have nb : b.Nodup := hb.imp fun h => Nat.ne_of_lt h
  have hp : a.Perm b := (List.perm_ext_iff_of_nodup na nb).mpr h
  exact List.Perm.eq_of_pairwise (fun a b _ _ h1 h2 => by omega) (ha.imp fun h => Nat.le_of_lt h) (hb.imp fun h => Nat.le_of_lt h) hp
theorem isort_asc (l : List Nat) : (isort leN l).Pairwise (· ≤ ·) := (isort_pair leN_total l).imp fun h => of_decide_eq_true h
theorem ddp_asc : ∀ (l acc : List Nat), acc.Pairwise (· < ·) → l.Pairwise (· ≤ ·) → (∀ a ∈ acc, ∀ b ∈ l, a ≤ b) → (l.foldl (fun acc n => if n ∈ acc then acc else acc ++ [n]) acc).Pairwise (· < ·)
  | [], acc, h, _, _ => h
  | n :: l, acc, h, hl, hm => by
    rw [List.foldl_cons]
    have hl' := List.pairwise_cons.mp hl
    by_cases hn : n ∈ acc
    · rw [if_pos hn]
      exact ddp_asc l acc h hl'.2 fun a ha b hb => hm a ha b (List.mem_cons_of_mem _ hb)
    · rw [if_neg hn]
      refine ddp_asc l (acc ++ [n]) ?_ hl'.2 ?_
      · refine List.pairwise_append.mpr ⟨h, by simp, fun a ha b hb => ?_⟩
        rw [List.mem_singleton] at hb
        subst hb
        have := hm a ha b (List.mem_cons_self ..)
        have : a ≠ b := fun z => hn (z ▸ ha)
        omega
      · intro a ha b hb
        rcases List.mem_append.mp ha with ha | ha
        · exact hm a ha b (List.mem_cons_of_mem _ hb)
        · rw [List.mem_singleton] at ha
          subst ha
          exact hl'.1 b hb
theorem rev_asc {r : List Nat} (h : Falling r) : r.reverse.Pairwise (· ≤ ·) := List.pairwise_reverse.mpr h
theorem ddp_rev {r : List Nat} (h : Falling r) : isort leN (ddp r) = ddp r.reverse := by
  refine strict_uniq ?_ (ddp_asc _ _ .nil (rev_asc h) (fun a ha => by cases ha)) fun x => ?_
  · have h2 : (isort leN (ddp r)).Nodup := (isort_perm leN _).nodup_iff.mpr (ddp_nodup _)
    exact ((isort_asc _).and h2).imp fun ⟨a, b⟩ => by omega
  · rw [(isort_perm leN _).mem_iff, ddp_mem, ddp_mem, List.mem_reverse]
theorem ddp_len_le : ∀ (l acc : List Nat), (l.foldl (fun acc n => if n ∈ acc then acc else acc ++ [n]) acc).length ≤ acc.length + l.length
  | [], acc => Nat.le_refl _
  | n :: l, acc => by
    rw [List.foldl_cons]
    by_cases hn : n ∈ acc
    · rw [if_pos hn]
      have := ddp_len_le l acc
      simp only [List.length_cons]; omega
    · rw [if_neg hn]
      have := ddp_len_le l (acc ++ [n])
      simp only [List.length_append, List.length_cons, List.length_nil] at *; omega
theorem ddp_len (l : List Nat) : (ddp l).length ≤ l.length := by have := ddp_len_le l []; rw [List.length_nil, Nat.zero_add] at this; exact this
theorem f_asc_row (w : Wd) {r : List Nat} (hf : Falling r) (hl : r.length < 64) : F__law_ascending [rowD r] w = .ok (.lst (natsD (ddp r.reverse))) w := by
  have hd := ddp_len r
  refine def_ret ?_
  unfold g__law_ascending
  show sRet _ [.frz (rowD r), .no] w = _
  have hc := x_map (fi := eSeq (vP 0)) (vs := [1]) (tg := gtN 1) (te := eTup (eCons (vF 1) (eCons (ePure (.bl true)) eNil))) (Γ := [.frz (rowD r), .no]) (w := w) (w1 := w) (fun n : Nat => D.int (n : Nat)) (fun n => D.tup [.int (n : Nat), .bl true]) r (x_seq (x_vP rfl) h_seqR) (by omega) fun n hn => ⟨[.frz (rowD r), .frz (.int (n : Nat))], rfl, by bv_omega⟩
  have h1 := dict_t r
  have h2 := sort_t (l := ddp r) (by omega)
  rw [ddp_rev hf] at h2
  bv_omega
theorem dataLt_row (a b : List Nat) : PySem.W.dataLt (rowD a).toPy (rowD b).toPy = decide ((a.map fun n => ((n : Nat) : Int)) < b.map fun n => ((n : Nat) : Int)) := by
  have e : ∀ r : List Nat, (rowD r).toPy = .tuple ((r.map fun n => ((n : Nat) : Int)).map PyData.int) := fun r => by
    unfold rowD
    rw [D.toPy, toPys_nats, List.map_map]; rfl
  rw [e, e, PySem.W.dataLt_tuple]
  exact PySem.W.dataLt_ints _ _
theorem map_inj : ∀ {a b : List Nat}, (a.map fun n => ((n : Nat) : Int)) = b.map (fun n => ((n : Nat) : Int)) → a = b
  | [], [], _ => rfl
  | [], _ :: _, h => by cases h
  | _ :: _, [], h => by cases h
  | x :: a, y :: b, h => by
    rw [List.map_cons, List.map_cons, List.cons.injEq] at h
    rw [map_inj h.2]
    congr 1
    omega
theorem leL_anti {a b : List Nat} (h1 : leL a b = true) (h2 : leL b a = true) : a = b := by
  have e1 : (!PySem.W.dataLt (rowD b).toPy (rowD a).toPy) = true := h1
  have e2 : (!PySem.W.dataLt (rowD a).toPy (rowD b).toPy) = true := h2
  rw [dataLt_row] at e1 e2
  simp only [Bool.not_eq_true', decide_eq_false_iff_not] at e1 e2
  exact map_inj (List.le_antisymm (List.not_lt.mp e1) (List.not_lt.mp e2))
theorem leL_total : PySem.W.TotalLe leL := ⟨fun a b c h1 h2 => (sLe_total false).trans _ _ _ h1 h2, fun a b => (sLe_total false).total _ _⟩
theorem isort_uniq {a b : List (List Nat)} (h : a.Perm b) : isort leL a = isort leL b :=
  List.Perm.eq_of_pairwise (fun a b _ _ h1 h2 => leL_anti h1 h2) (isort_pair leL_total a) (isort_pair leL_total b) (((isort_perm leL a).trans h).trans (isort_perm leL b).symm)
end LW

set_option Elab.async false
set_option linter.all false
set_option maxRecDepth 100000
set_option maxHeartbeats 4000000
namespace LW
open PySem DL
/-! ### the rows ahead -/
def ahd (r : List Nat) (p : Nat) : List Nat := (r.take (r.idxOf p) ++ r.drop (r.idxOf p + 1)).map (· + 1) ++ List.replicate (p + 1 - r.length) 1
def prt (r : List Nat) : List Nat := ddp (r.filter fun p => decide (r.length ≤ p + 1))
theorem idx_cast (p : Nat) : ∀ r : List Nat, (r.map fun n => ((n : Nat) : Int)).idxOf (p : Int) = r.idxOf p
  | [] => rfl
  | q :: r => by
    rw [List.map_cons, List.idxOf_cons, List.idxOf_cons, idx_cast p r]
    by_cases h : q = p
    · subst h; simp
    · have h2 : ((q : Nat) : Int) ≠ (p : Nat) := by omega
      rw [beq_eq_false_iff_ne.mpr h, beq_eq_false_iff_ne.mpr h2]
theorem mem_cast {p : Nat} {r : List Nat} (h : p ∈ r) : (p : Int) ∈ r.map fun n => ((n : Nat) : Int) := List.mem_map_of_mem (f := fun n : Nat => ((n : Nat) : Int)) h
theorem bIx_row {r : List Nat} {p : Nat} (h : p ∈ r) : bIndexT (rowD r) (.int (p : Nat)) = some (.int (r.idxOf p : Nat)) := by
  unfold bIndexT rowD
  dsimp only
  have e : intsD (r.map fun n => D.int (n : Nat)) = some (r.map fun n => ((n : Nat) : Int)) := intsD_nats r
  rw [e]
  show (if (p : Int) ∈ r.map (fun n => ((n : Nat) : Int)) then some (D.int ((r.map fun n => ((n : Nat) : Int)).idxOf (p : Int) : Nat)) else none) = _
  rw [if_pos (mem_cast h), idx_cast]
theorem x_indexT {f g : EX D} {Γ : Ev} {w w1 w2 : Wd} {a b c : D} (h1 : f Γ w = .ok a w1) (ht : isTp a = true) (h2 : g Γ w1 = .ok b w2) (h3 : bIndexT a b = some c) : eIndexT f g Γ w = .ok c w2 := by
  unfold eIndexT; rw [eBind_ok h1, if_pos ht, eBind_ok h2, h3]; rfl
theorem h_slTo (ds : List D) (i : Nat) (h : i ≤ ds.length) : dSl (.tup ds) none (some (i : Nat)) = some (.tup (ds.take i)) := by
  unfold dSl dSlT cutD
  dsimp only
  rw [HT.sIx_none, HT.sIx_nat, Nat.min_eq_left h, List.drop_zero, Nat.sub_zero]
  rfl
theorem rowTake (r : List Nat) (i : Nat) (h : i ≤ r.length) : dSl (rowD r) none (some (i : Nat)) = some (rowD (r.take i)) := by
  have := h_slTo (natsD r) i (by rw [List.length_map]; exact h)
  unfold natsD at this
  rw [← List.map_take] at this
  exact this
theorem rowDrop (r : List Nat) (i : Nat) : dSl (rowD r) (some (i : Nat)) none = some (rowD (r.drop i)) := by
  have := h_slT (natsD r) i
  unfold natsD at this
  rw [← List.map_drop] at this
  exact this
theorem f_row_ahead (w : Wd) {n : Nat} {r : List Nat} {p : Nat} (hr : Row n r) (hn : n ≤ 200) (hp : p ∈ r) (hl : r.length ≤ p + 1) : F_row_ahead [rowD r, .int (p : Nat)] w = .ok (rowD (ahd r p)) w := by
  have hi := bIx_row hp
  have hlt : r.idxOf p < r.length := List.idxOf_lt_length_iff.mpr hp
  have hlen := hr.len
  have hple := hr.le p hp
  have t1 := rowTake r (r.idxOf p) (by omega)
  have t2 := rowDrop r (r.idxOf p + 1)
  have hll : (r.take (r.idxOf p) ++ r.drop (r.idxOf p + 1)).length = r.length - 1 := by
    rw [List.length_append, List.length_take, List.length_drop]; omega
  have hcat : natsD (r.take (r.idxOf p)) ++ natsD (r.drop (r.idxOf p + 1)) = natsD (r.take (r.idxOf p) ++ r.drop (r.idxOf p + 1)) := by unfold natsD; rw [List.map_append]
  have hres : natsD ((r.take (r.idxOf p) ++ r.drop (r.idxOf p + 1)).map (· + 1)) ++ List.replicate (p + 1 - r.length) (D.int 1) = natsD (ahd r p) := by
    unfold ahd natsD
    rw [List.map_append (l₂ := List.replicate _ 1), List.map_replicate]; rfl
  have hrow : bTuple [.lst (natsD (ahd r p))] = some (rowD (ahd r p)) := rfl
  have hl1 : ((r.take (r.idxOf p) ++ r.drop (r.idxOf p + 1)).map (· + 1)).length = r.length - 1 := by rw [List.length_map, hll]
  generalize ahd r p = res at hres hrow ⊢
  generalize r.take (r.idxOf p) = A at t1 hll hcat hres hl1
  generalize r.drop (r.idxOf p + 1) = B at t2 hll hcat hres hl1
  generalize r.idxOf p = i at hi t1 t2
  have sA : seqD (rowD A) = some (natsD A) := rfl
  have sB : seqD (rowD B) = some (natsD B) := rfl
  have hT : isTp (rowD r) = true := rfl
  generalize rowD A = xa at t1 sA
  generalize rowD B = xb at t2 sB
  generalize rowD r = x at hi hT t1 t2 ⊢
  refine def_ret ?_
  unfold g_row_ahead
  have q1 : eIndexT (vP 0) (vP 1) [.frz x, .frz (.int (p : Nat)), .no, .no, .no] w = .ok (.int (i : Nat)) w := x_indexT (x_vP rfl) hT (x_vP rfl) hi
  have hadd : dAdd (.int (i : Nat)) (.int 1) = some (.int ((i + 1 : Nat) : Nat)) := rfl
  have hsq : eSeq (eTup (eApp (eSeq (eSl dSl (vP 0) (ePure none) (eOpt (vP 2)))) (eApp (eSeq (eSl dSl (vP 0) (eOpt (eOp dAdd (vP 2) (ePure (.int 1)))) (ePure none))) eNil))) [.frz x, .frz (.int (p : Nat)), .frz (.int (i : Nat)), .no, .no] w = .ok (natsD (A ++ B)) w := by
    have hs : seqD (.tup (natsD A ++ (natsD B ++ []))) = some (natsD (A ++ B)) := by rw [List.append_nil, hcat]; rfl
    have hle : (natsD A ++ (natsD B ++ [])).length ≤ 16777216 := by rw [List.append_nil, hcat, List.length_map, hll]; omega
    generalize natsD (A ++ B) = Z at hs ⊢
    bv_omega
  have hc := comp_pure (tg := gtN 4) (tt := ePure true) (te := eOp dAdd (vP 4) (ePure (.int 1))) (Γ := wipeE [.frz x, .frz (.int (p : Nat)), .frz (.int (i : Nat)), .no, .no] [4]) (w := w) (fun n : Nat => D.int (n : Nat)) (fun _ => true) (fun q => D.int ((q + 1 : Nat) : Nat)) (A ++ B) (fun q hq => ⟨_, rfl, rfl, fun _ => by
    show eOp dAdd (vP 4) (ePure (.int 1)) [.frz x, .frz (.int (p : Nat)), .frz (.int (i : Nat)), .no, .frz (.int (q : Nat))] w = _
    have ha : dAdd (.int (q : Nat)) (.int 1) = some (.int ((q + 1 : Nat) : Nat)) := rfl
    bv_omega⟩)
  have hcomp := eComp_of (vs := [4]) hsq (by rw [List.length_map, sizeL, hll]; omega) hc
  rw [filt_true] at hcomp
  have hm : (A ++ B).map (fun q => D.int ((q + 1 : Nat) : Nat)) = natsD ((A ++ B).map (· + 1)) := by unfold natsD; rw [List.map_map]; rfl
  rw [hm] at hcomp
  have hln : bLenS [.lst (natsD ((A ++ B).map (· + 1)))] = some (.int ((r.length - 1 : Nat) : Nat)) := by rw [h_lenL, List.length_map, hl1]
  have hsub : dSub (.int (p : Nat)) (.int ((r.length - 1 : Nat) : Nat)) = some (.int ((p + 1 - r.length : Nat) : Nat)) := by
    rw [h_subN (by omega)]
    congr 3; omega
  have hrep : lMul (.lst [.int 1]) (.int ((p + 1 - r.length : Nat) : Nat)) = some (.lst (List.replicate (p + 1 - r.length) (.int 1))) := rep1L _ (by omega)
  have hla : lAdd (.lst (natsD ((A ++ B).map (· + 1)))) (.lst (List.replicate (p + 1 - r.length) (.int 1))) = some (.lst (natsD res)) := by
    rw [h_ladd (by rw [List.length_map, hl1, List.length_replicate]; omega), hres]
  generalize natsD res = rr at hla hrow
  generalize natsD ((A ++ B).map (· + 1)) = G at hcomp hln hla
  generalize (List.replicate (p + 1 - r.length) (D.int 1)) = E1 at hrep hla
  generalize rowD res = out at hrow ⊢
  refine s_seq (Γ1 := [.frz x, .frz (.int (p : Nat)), .frz (.int (i : Nat)), .no, .no]) (w1 := w) ?_ (s_seq (Γ1 := [.frz x, .frz (.int (p : Nat)), .frz (.int (i : Nat)), .own (.lst G), .no]) (w1 := w) ?_ ?_)
  · show sSet 2 (eIndexT (vP 0) (vP 1)) [.frz x, .frz (.int (p : Nat)), .no, .no, .no] w = _
    bv_omega
  · unfold sSetN R.on
    rw [hcomp]; rfl
  · bv_omega
end LW

set_option Elab.async false
set_option linter.all false
set_option maxRecDepth 100000
set_option maxHeartbeats 4000000
namespace LW
open PySem DL
theorem split_at {r : List Nat} {p : Nat} (hp : p ∈ r) : r = r.take (r.idxOf p) ++ p :: r.drop (r.idxOf p + 1) := by
  have hlt : r.idxOf p < r.length := List.idxOf_lt_length_iff.mpr hp
  have h1 := List.take_append_drop (r.idxOf p) r
  rw [List.drop_eq_getElem_cons hlt, List.getElem_idxOf hlt] at h1
  exact h1.symm
theorem sort_fall {r : List Nat} (h : Falling r) : isort geN r = r :=
  List.Perm.eq_of_pairwise (le := fun a b => b ≤ a) (fun a b _ _ h1 h2 => by omega) (isort_falling r) h (isort_perm geN r)
theorem sum_succ : ∀ l : List Nat, (l.map (· + 1)).sum = l.sum + l.length
  | [] => rfl
  | a :: l => by rw [List.map_cons, List.sum_cons, List.sum_cons, sum_succ l, List.length_cons]; omega
theorem ahd_facts {n : Nat} {r : List Nat} {p : Nat} (hr : Row n r) (hp : p ∈ r) (hl : r.length ≤ p + 1) : Row n (ahd r p) ∧ step (ahd r p) = r ∧ (ahd r p).length = p := by
  have hs := split_at hp
  have hp1 := hr.pos p hp
  generalize hA : r.take (r.idxOf p) = A at hs
  generalize hB : r.drop (r.idxOf p + 1) = B at hs
  have ha : ahd r p = (A ++ B).map (· + 1) ++ List.replicate (p + 1 - r.length) 1 := by unfold ahd; rw [hA, hB]
  have hsub : (A ++ B).Sublist r := by
    rw [hs]
    exact List.Sublist.append_left (List.sublist_cons_self ..) A
  have hlen : r.length = (A ++ B).length + 1 := by
    rw [hs, List.length_append, List.length_append, List.length_cons]; omega
  have hsum : r.sum = (A ++ B).sum + p := by
    rw [hs, List.sum_append, List.sum_append, List.sum_cons]; omega
  have hpos : ∀ q ∈ A ++ B, 1 ≤ q := fun q hq => hr.pos q (hsub.subset hq)
  have hfall : Falling (A ++ B) := hr.fall.sublist hsub
  have hlz : (ahd r p).length = p := by
    rw [ha, List.length_append, List.length_map, List.length_replicate]; omega
  refine ⟨⟨?_, ?_, ?_⟩, ?_, hlz⟩
  · rw [ha]
    refine List.pairwise_append.mpr ⟨List.pairwise_map.mpr (hfall.imp fun h => Nat.succ_le_succ h), List.pairwise_replicate.mpr (.inr (Nat.le_refl _)), fun a ha b hb => ?_⟩
    rw [(List.mem_replicate.mp hb).2]
    obtain ⟨q, hq, rfl⟩ := List.mem_map.mp ha
    exact Nat.succ_le_succ (Nat.zero_le _)
  · rw [ha]
    intro q hq
    rcases List.mem_append.mp hq with hq | hq
    · obtain ⟨q, hq, rfl⟩ := List.mem_map.mp hq
      exact Nat.succ_le_succ (Nat.zero_le _)
    · rw [(List.mem_replicate.mp hq).2]
      exact Nat.le_refl _
  · rw [ha, List.sum_append, sum_succ, List.sum_replicate_nat, ← hr.sum, hsum]
    omega
  · have hne : ahd r p ≠ [] := fun e => by rw [e] at hlz; simp at hlz; omega
    have hf : ((ahd r p).filter fun q => decide (1 < q)).map (fun q => q - 1) = A ++ B := by
      rw [ha, List.filter_append]
      have e1 : ((A ++ B).map (· + 1)).filter (fun q => decide (1 < q)) = (A ++ B).map (· + 1) := List.filter_eq_self.mpr fun q hq => by
        obtain ⟨q, hq', rfl⟩ := List.mem_map.mp hq
        have := hpos q hq'
        exact decide_eq_true (by omega)
      have e2 : (List.replicate (p + 1 - r.length) 1).filter (fun q => decide (1 < q)) = [] := List.filter_eq_nil_iff.mpr fun q hq => by
        rw [(List.mem_replicate.mp hq).2]; simp
      rw [e1, e2, List.append_nil, List.map_map]
      have : ((fun q => q - 1) ∘ fun x => x + 1) = (id : Nat → Nat) := by funext x; rfl
      rw [this, List.map_id]
    unfold step
    rw [hf, if_neg hne, hlz]
    have hper : (A ++ B ++ [p]).Perm r := by
      have h1 : (A ++ B ++ [p]).Perm (p :: (A ++ B)) := List.perm_append_comm (l₁ := A ++ B) (l₂ := [p])
      have h2 : (p :: (A ++ B)).Perm (A ++ p :: B) := (List.perm_middle (l₁ := A) (l₂ := B) (a := p)).symm
      rw [← hs] at h2
      exact h1.trans h2
    rw [geN_uniq hper, sort_fall hr.fall]
def AH (r : List Nat) : List (List Nat) := if r = [] then [[]] else isort leL ((prt r).map (ahd r))
theorem prt_mem {r : List Nat} {p : Nat} : p ∈ prt r ↔ p ∈ r ∧ r.length ≤ p + 1 := by
  unfold prt
  rw [ddp_mem, List.mem_filter]
  simp
theorem prt_len (r : List Nat) : (prt r).length ≤ r.length := Nat.le_trans (ddp_len _) (List.length_filter_le _ _)
theorem eDcL_t (w : Wd) {tt : EX Bool} {x y : Sl} (pp : Nat → Bool) (ht : ∀ q : Nat, tt [x, y, .frz (.int (q : Nat))] w = .ok (pp q) w) : ∀ (xs acc : List Nat), acc.length + xs.length ≤ 1000 → eDcL (gtN 2) tt (vF 2) (ePure (.bl true)) [x, y, .no] (natsD xs) (tkv acc) w = .ok (tkv ((xs.filter pp).foldl (fun acc n => if n ∈ acc then acc else acc ++ [n]) acc)) w
  | [], acc, _ => rfl
  | q :: xs, acc, h => by
    rw [List.length_cons] at h
    have h1 : gtN 2 (D.int (q : Nat)) [x, y, .no] = some [x, y, .frz (.int (q : Nat))] := rfl
    have hk : (toKey (.int (q : Nat))).isSome = true ∧ (tkv acc).length < sizeLine := ⟨rfl, by rw [sizeL]; unfold tkv; rw [List.length_map]; omega⟩
    show eDcL _ _ _ _ _ (D.int (q : Nat) :: natsD xs) _ w = _
    unfold eDcL
    rw [h1]
    dsimp only
    have q1 := noexc_ok (ht q)
    have q2 : M.noexc (vF 2 [x, y, .frz (.int (q : Nat))]) w = .ok (.int (q : Nat)) w := rfl
    have q3 : M.noexc (ePure (D.bl true) [x, y, .frz (.int (q : Nat))]) w = .ok (.bl true) w := rfl
    rw [bind_ok q1]
    cases hpq : pp q with
    | true =>
      rw [List.filter_cons_of_pos hpq, List.foldl_cons]
      try dsimp only
      rw [if_pos rfl, bind_ok q2]
      try dsimp only
      rw [bind_ok q3]
      try dsimp only
      rw [if_pos hk, put_t]
      exact eDcL_t w pp ht xs _ (by
        split
        · omega
        · simp only [List.length_append, List.length_cons, List.length_nil]; omega)
    | false =>
      rw [List.filter_cons_of_neg (by simp [hpq])]
      rw [if_neg (by simp)]
      exact eDcL_t w pp ht xs acc (by omega)
theorem f_ahead_in (w : Wd) {n : Nat} {r : List Nat} (hr : Row n r) (hn : n ≤ 200) : F_ahead_in [rowD r] w = .ok (.lst ((AH r).map rowD)) w := by
  refine def_ret ?_
  unfold g_ahead_in
  have hq : dEq (rowD r) (.tup []) = some (.bl (decide (r = []))) := dEq_rows r []
  have c0 : eBl (eOp dEq (vP 0) (eTup eNil)) [.frz (rowD r), .no, .no] w = .ok (decide (r = [])) w := by
    have e0 : eTup eNil [.frz (rowD r), .no, .no] w = .ok (.tup []) w := x_tup x_nil (len_ok (by simp))
    bv_omega
  by_cases h0 : r = []
  · subst h0
    refine s_seqr (s_if_t c0 ?_)
    have e1 : eTup eNil [.frz (rowD []), .no, .no] w = .ok (.tup []) w := x_tup x_nil (len_ok (by simp))
    have hAH : (.lst ((AH []).map rowD) : D) = .lst [.tup []] := rfl
    rw [hAH]
    bv_omega
  · rw [decide_eq_false h0] at c0
    have hlen := hr.len
    have hlr : bLenS [rowD r] = some (.int (r.length : Nat)) := h_lenR
    have hpos : 1 ≤ r.length := List.length_pos_iff.mpr h0
    have hs1 : dSub (.int (r.length : Nat)) (.int 1) = some (.int ((r.length - 1 : Nat) : Nat)) := h_sub1 hpos
    have hd : eDc (eSeq (vP 0)) [2] (gtN 2) (eBl (eOp oGe (vP 2) (eOp dSub (eCl bLenS (eCons (vP 0) eNil)) (ePure (.int 1))))) (vF 2) (ePure (.bl true)) [.frz (rowD r), .no, .no] w = .ok (.dck (tkv (prt r))) w := by
      unfold eDc
      have hsq : eSeq (vP 0) [.frz (rowD r), .no, .no] w = .ok (natsD r) w := rfl
      rw [bind_ok hsq]
      have := eDcL_t w (tt := eBl (eOp oGe (vP 2) (eOp dSub (eCl bLenS (eCons (vP 0) eNil)) (ePure (.int 1))))) (x := .frz (rowD r)) (y := .no) (fun q => decide (r.length ≤ q + 1)) (fun q => by
        have hge : oGe (.int (q : Nat)) (.int ((r.length - 1 : Nat) : Nat)) = some (.bl (decide (r.length ≤ q + 1))) := by
          rw [h_ge]
          congr 2
          exact decide_eq_decide.mpr (by omega)
        generalize rowD r = z at hlr
        bv_omega) r [] (by simp; omega)
      have this : eDcL (gtN 2) (eBl (eOp oGe (vP 2) (eOp dSub (eCl bLenS (eCons (vP 0) eNil)) (ePure (.int 1))))) (vF 2) (ePure (.bl true)) (wipeE [.frz (rowD r), .no, .no] [2]) (natsD r) [] w = .ok (tkv (prt r)) w := this
      rw [bind_ok this]
    have hk : iterD (.dck (tkv (prt r))) = some (natsD (prt r)) := by
      show some ((tkv (prt r)).map (·.1)) = _
      unfold tkv natsD
      rw [List.map_map]; rfl
    have hpl := prt_len r
    have hx : eComp (eItv (vF 1)) [2] (gtN 2) (ePure true) (eCall F_row_ahead (eCons (vF 0) (eCons (vF 2) eNil))) [.frz (rowD r), .frz (.dck (tkv (prt r))), .no] w = .ok (.lst ((prt r).map fun p => rowD (ahd r p))) w := by
      refine x_map (fun n : Nat => D.int (n : Nat)) (fun p => rowD (ahd r p)) (prt r) ?_ (by omega) fun p hp => ⟨[.frz (rowD r), .frz (.dck (tkv (prt r))), .frz (.int (p : Nat))], rfl, ?_⟩
      · show eItv (vF 1) [.frz (rowD r), .frz (.dck (tkv (prt r))), .no] w = .ok (natsD (prt r)) w
        generalize tkv (prt r) = kv at hk ⊢
        generalize natsD (prt r) = z at hk ⊢
        unfold eItv
        rw [eBind_ok (a := D.dck kv) (w1 := w) rfl, hk]; rfl
      · obtain ⟨h1, h2⟩ := prt_mem.mp hp
        have hF := f_row_ahead w hr hn h1 h2
        generalize rowD (ahd r p) = z at hF ⊢
        generalize rowD r = y at hF ⊢
        bv_omega
    have hsort := sort_rows (L := (prt r).map (ahd r)) (by rw [List.length_map]; omega) (.inr fun q hq => by
      obtain ⟨p, hp, rfl⟩ := List.mem_map.mp hq
      obtain ⟨h1, h2⟩ := prt_mem.mp hp
      have := (ahd_facts hr h1 h2).2.2
      have hp1 := hr.pos p h1
      intro e
      rw [e] at this
      simp at this
      omega)
    rw [List.map_map] at hsort
    have hsort : bSortA [.lst ((prt r).map fun p => rowD (ahd r p))] = some (.lst ((AH r).map rowD)) := by
      unfold AH
      rw [if_neg h0]
      exact hsort
    generalize (AH r).map rowD = out at hsort ⊢
    generalize ((prt r).map fun p => rowD (ahd r p)) = L at hx hsort
    generalize tkv (prt r) = kv at hd hx
    generalize rowD r = x at c0 hd hx ⊢
    refine s_seq (Γ1 := [.frz x, .no, .no]) (w1 := w) (s_if_f c0 s_nil) (s_seq (Γ1 := [.frz x, .own (.dck kv), .no]) (w1 := w) ?_ ?_)
    · unfold sSetN R.on
      rw [hd]; rfl
    · bv_omega
theorem f_ahead_of (w : Wd) {n : Nat} {r : List Nat} (hr : Row n r) (hn : n ≤ 200) : F_ahead_of [rowD r] w = .ok (.tup ((AH r).map rowD)) w := by
  refine def_ret ?_
  unfold g_ahead_of
  have h1 := f_req_row w hr hn
  have h2 := f_ahead_in w hr hn
  generalize (AH r).map rowD = A at h2 ⊢
  generalize rowD r = x at h1 h2 ⊢
  have h3 : bTuple [.lst A] = some (.tup A) := rfl
  refine s_seq (Γ1 := [.frz x]) (w1 := w) (s_drop (d := .non) ?_) ?_
  · show eCall _ _ [.frz x] w = _
    bv_omega
  · bv_omega
theorem f_begun_in (w : Wd) {n : Nat} {r : List Nat} (hr : Row n r) (hn : n ≤ 200) : F_is_begun_in [rowD r] w = .ok (.bl (!decide (r = []) && decide (r.headD 0 + 1 < r.length))) w := by
  refine def_ret ?_
  unfold g_is_begun_in
  have hq : dNe (rowD r) (.tup []) = some (.bl (!decide (r = []))) := dNe_rows r []
  have hlr : bLenS [rowD r] = some (.int (r.length : Nat)) := h_lenR
  cases r with
  | nil =>
    have hq : dNe (rowD []) (.tup []) = some (.bl false) := hq
    have hb : (!decide (([] : List Nat) = []) && decide (([] : List Nat).headD 0 + 1 < ([] : List Nat).length)) = false := by simp
    rw [hb]
    have e0 : eTup eNil [.frz (rowD [])] w = .ok (.tup []) w := x_tup x_nil (len_ok (by simp))
    show sRet _ [.frz (rowD [])] w = _
    have c0 : eBl (eOp dNe (vP 0) (eTup eNil)) [.frz (rowD [])] w = .ok false w := by bv_omega
    have c1 : eAnd (eBl (eOp dNe (vP 0) (eTup eNil))) (eBl (eOp oLt (eIx (vP 0) (ePure (.int 0))) (eOp dSub (eCl bLenS (eCons (vP 0) eNil)) (ePure (.int 1))))) [.frz (rowD [])] w = .ok false w := by
      unfold eAnd; rw [eBind_ok c0]; rfl
    bv_omega
  | cons p l =>
    have hix : dIx w (rowD (p :: l)) (.int 0) = some (.int (p : Nat)) := h_ixR (i := 0) rfl
    have hs : dSub (.int ((p :: l).length : Nat)) (.int 1) = some (.int (((p :: l).length - 1 : Nat) : Nat)) := h_sub1 (by simp)
    have hlt : oLt (.int (p : Nat)) (.int (((p :: l).length - 1 : Nat) : Nat)) = some (.bl (decide (p + 1 < (p :: l).length))) := by
      rw [h_lt]
      congr 2
      exact decide_eq_decide.mpr (by rw [List.length_cons]; omega)
    have hq : dNe (rowD (p :: l)) (.tup []) = some (.bl true) := hq
    show _ = SO.ret (.bl (true && decide (p + 1 < (p :: l).length))) w
    generalize rowD (p :: l) = x at hq hlr hix ⊢
    generalize decide (p + 1 < (p :: l).length) = b at hlt ⊢
    generalize ((p :: l).length - 1 : Nat) = k1 at hs hlt
    generalize (p :: l).length = k at hlr hs
    have e0 : eTup eNil [.frz x] w = .ok (.tup []) w := x_tup x_nil (len_ok (by simp))
    show sRet _ [.frz x] w = _
    have c0 : eBl (eOp dNe (vP 0) (eTup eNil)) [.frz x] w = .ok true w := by bv_omega
    have c2 : eBl (eOp oLt (eIx (vP 0) (ePure (.int 0))) (eOp dSub (eCl bLenS (eCons (vP 0) eNil)) (ePure (.int 1)))) [.frz x] w = .ok b w := by bv_omega
    have c1 := x_and c0 fun _ => c2
    bv_omega
theorem f_begun (w : Wd) {n : Nat} {r : List Nat} (hr : Row n r) (hn : n ≤ 200) : F_is_begun [rowD r] w = .ok (.bl (!decide (r = []) && decide (r.headD 0 + 1 < r.length))) w := by
  refine def_ret ?_
  unfold g_is_begun
  have h1 := f_req_row w hr hn
  have h2 := f_begun_in w hr hn
  generalize (!decide (r = []) && decide (r.headD 0 + 1 < r.length)) = b at h2 ⊢
  generalize rowD r = x at h1 h2 ⊢
  refine s_seq (Γ1 := [.frz x]) (w1 := w) (s_drop (d := .non) ?_) ?_
  · show eCall _ _ [.frz x] w = _
    bv_omega
  · bv_omega
end LW

set_option Elab.async false
set_option linter.all false
set_option maxRecDepth 100000
set_option maxHeartbeats 4000000
namespace LW
open PySem DL
theorem f_integer (i a b : Int) (w : Wd) : F__law_is_integer [.int i, .int a, .int b] w = .ok (.bl (decide (a ≤ i) && decide (i ≤ b))) w := by
  refine def_ret ?_
  unfold g__law_is_integer
  show sRet _ [.frz (.int i), .frz (.int a), .frz (.int b)] w = _
  have c1 : eIsi "int" (vP 0) [.frz (.int i), .frz (.int a), .frz (.int b)] w = .ok true w := by rfl
  have c2 : eNotB (eIsi "bool" (vP 0)) [.frz (.int i), .frz (.int a), .frz (.int b)] w = .ok true w := by rfl
  have c3 : eChain oLe oLe (vP 1) (vP 0) (vP 2) [.frz (.int i), .frz (.int a), .frz (.int b)] w = .ok (decide (a ≤ i) && decide (i ≤ b)) w := by bv_omega
  exact s_ret (x_d (x_and_t c1 (x_and_t c2 c3)))
theorem f_pick (w : Wd) (d : Nat) {ds : List D} (hd : Dice w d) (hn : ds ≠ []) (hl : ds.length ≤ 100000) : ∃ (x : D) (w' : Wd), F__law_pick [.cell d, .lst ds] w = .ok x w' ∧ x ∈ ds ∧ Dice w' d := by
  have h0 : 0 < ds.length := List.length_pos_iff.mpr hn
  obtain ⟨v, w1, e1, v0, v1, hd1⟩ := f_roll w d (ds.length : Nat) hd (by omega) (by
    have : ((ds.length : Nat) : Int).natAbs = ds.length := Int.natAbs_natCast _
    rw [this]
    have := (Nat.log2_lt (show ds.length ≠ 0 by omega)).mpr (show ds.length < 2 ^ 17 by omega)
    omega)
  obtain ⟨q, rfl⟩ : ∃ q : Nat, v = (q : Nat) := ⟨v.toNat, by omega⟩
  have hq : q < ds.length := by omega
  refine ⟨ds[q], w1, ?_, List.getElem_mem _, hd1⟩
  refine def_ret ?_
  unfold g__law_pick
  show sRet _ [.frz (.cell d), .frz (.lst ds)] w = _
  have hix := h_ixL (w := w1) (List.getElem?_eq_getElem hq)
  exact s_ret (x_ix (x_vP rfl) (x_call (x_cons (x_vF rfl) (x_cons (x_cl (x_cons (x_vP rfl) x_nil) h_lenL) x_nil)) e1) hix)
theorem ne_str {x : Str} (h : PyData.strOk x = true) : dNe (.str x) (.str x) = some (.bl false) := by
  unfold dNe dEqv
  simp [D.toPy, SeqAt.shaped, PyData.canLay0, PyData.depth, PyData.eqv, h]
theorem Pl.reprA {k n : Nat} {d : D} (h : Pl k n d.toPy) (hk : k ≤ 64) (hn : n ≤ 1048576) : bReprA [d] = some (.str d.toPy.shown) := by
  unfold bReprA
  rw [h.repr hk hn]; rfl
theorem x_neA {k n : Nat} {e1 e2 : EX D} {Γ : Ev} {w w' w'' : Wd} {a : D} (h1 : e1 Γ w = .ok a w') (h2 : e2 Γ w' = .ok a w'') (hp : Pl k n a.toPy) (hk : k ≤ 64) (hn : n ≤ 1048576) : eBl (eOp dNe (eCl bReprA (eCons e1 eNil)) (eCl bReprA (eCons e2 eNil))) Γ w = .ok false w'' :=
  x_bl (x_op (x_cl (x_cons h1 x_nil) (Pl.reprA hp hk hn)) (x_cl (x_cons h2 x_nil) (Pl.reprA hp hk hn)) hp.neS)
theorem toPys_rows : ∀ m : List (List Nat), toPys (m.map rowD) = m.map fun r => PyData.tuple (r.map fun n => PyData.int (n : Nat))
  | [] => rfl
  | r :: m => by
    show toPys (rowD r :: m.map rowD) = _
    rw [toPys, toPys_rows m, List.map_cons]
    congr 1
    unfold rowD
    rw [D.toPy]
    have := toPys_nats r
    unfold natsD at this
    rw [this]
theorem canLay_rows : ∀ m : List (List Nat), PyData.canLayAll0 (m.map fun r => PyData.tuple (r.map fun n => PyData.int (n : Nat))) = true
  | [] => rfl
  | r :: m => by
    have h1 := canLay_nat r
    have h2 := canLay_rows m
    rw [List.map_cons, PyData.canLayAll0, h2]
    show (PyData.canLayAll0 _ && true) = true
    rw [h1]; rfl
theorem depth_rows : ∀ m : List (List Nat), PyData.depthAll (m.map fun r => PyData.tuple (r.map fun n => PyData.int (n : Nat))) ≤ 1
  | [] => Nat.zero_le _
  | r :: m => by
    have h1 := depthAll_nat r
    have h2 := depth_rows m
    rw [List.map_cons, PyData.depthAll]
    have h3 : (PyData.tuple (r.map fun n => PyData.int (n : Nat))).depth = 1 := by rw [PyData.depth, h1]
    rw [h3]
    exact Nat.max_le.mpr ⟨Nat.le_refl _, h2⟩
theorem shaped_rows (m : List (List Nat)) : SeqAt.shaped (.list (toPys (m.map rowD))) = true := by
  rw [toPys_rows]
  unfold SeqAt.shaped
  show (PyData.canLayAll0 _ && _) = true
  rw [canLay_rows, PyData.depth]
  have := depth_rows m
  rw [decide_eq_true (by omega)]; rfl
theorem any_rows (x : List Nat) : ∀ m : List (List Nat), ((toPys (m.map rowD)).any fun z => PyData.eqv z (rowD x).toPy) = decide (x ∈ m)
  | [] => by simp [toPys]
  | r :: m => by
    show ((toPys (rowD r :: m.map rowD)).any fun z => PyData.eqv z (rowD x).toPy) = _
    rw [toPys, List.any_cons, any_rows x m, eqv_row]
    by_cases h1 : r = x <;> by_cases h2 : x ∈ m <;> simp [h1, h2]
    intro z; exact absurd z.symm h1
theorem dIn_rows (x : List Nat) (m : List (List Nat)) : dIn (rowD x) (.lst (m.map rowD)) = some (decide (x ∈ m)) := by
  have hk : isDk (.lst (m.map rowD)) = false := rfl
  unfold dIn
  rw [hk, if_neg (by simp)]
  unfold dInS seqD
  simp only [Option.bind_some]
  rw [shaped_row, shaped_rows, any_rows]
  rfl
theorem falling_drop {r : List Nat} (h : Falling r) : ∀ p ∈ r.zip (r.drop 1), ¬ p.1 < p.2 := fun p hp => by have := falling_zip h p hp; omega
theorem f_is_rowL (w : Wd) {n : Nat} {r : List Nat} (hr : Row n r) (hn : n ≤ 200) : F__law_is_row [rowD r] w = .ok (.bl true) w := by
  refine def_ret ?_
  unfold g__law_is_row
  have hl := hr.len
  have hsum := bSum_row r
  rw [hr.sum] at hsum
  have c1 : eComp (eSeq (vP 0)) [1] (gtN 1) (eNotB (eTru (eCall F__law_is_integer (eCons (vF 1) (eCons (ePure (.int 1)) (eCons (ePure (.int 200)) eNil)))))) (vF 1) [.frz (rowD r), .no, .no] w = .ok (.lst []) w := by
    have := x_comp (fi := eSeq (vP 0)) (vs := [1]) (tg := gtN 1) (tt := eNotB (eTru (eCall F__law_is_integer (eCons (vF 1) (eCons (ePure (.int 1)) (eCons (ePure (.int 200)) eNil)))))) (te := vF 1) (Γ := [.frz (rowD r), .no, .no]) (w := w) (w1 := w) (fun n : Nat => D.int (n : Nat)) (fun _ => false) (fun n : Nat => D.int (n : Nat)) r rfl (by omega) fun p hp => ⟨[.frz (rowD r), .frz (.int (p : Nat)), .no], rfl, by
      have h1 := hr.pos p hp
      have h2 := hr.le p hp
      have hf := f_integer (p : Nat) 1 200 w
      rw [decide_eq_true (by omega), decide_eq_true (by omega)] at hf
      have hf : F__law_is_integer [.int (p : Nat), .int 1, .int 200] w = .ok (.bl true) w := hf
      generalize rowD r = x
      have e1 : eTru (eCall F__law_is_integer (eCons (vF 1) (eCons (ePure (.int 1)) (eCons (ePure (.int 200)) eNil)))) [.frz x, .frz (.int (p : Nat)), .no] w = .ok true w := by bv_omega
      exact x_not e1, fun h => by cases h⟩
    rw [this]
    simp
  have c2 : eComp (eZip (vP 0) (eSl dSl (vP 0) (eOpt (ePure (.int 1))) (ePure none))) [1, 2] (gtTup 2 (gtCons (gtN 1) (gtCons (gtN 2) gtNil))) (eBl (eOp oLt (vP 1) (vP 2))) (ePure (.int 1)) [.frz (rowD r), .no, .no] w = .ok (.lst []) w := by
    have hz : eZip (vP 0) (eSl dSl (vP 0) (eOpt (ePure (.int 1))) (ePure none)) [.frz (rowD r), .no, .no] w = .ok ((r.zip (r.drop 1)).map fun p => D.ftp [.int (p.1 : Nat), .int (p.2 : Nat)]) w := by
      have h1 : eSl dSl (vP 0) (eOpt (ePure (.int 1))) (ePure none) [.frz (rowD r), .no, .no] w = .ok (rowD (r.drop 1)) w := by
        have := sl_row1 r
        generalize rowD (r.drop 1) = y at this ⊢
        generalize rowD r = x at this ⊢
        bv_omega
      have := x_zip (f := vP 0) (Γ := [.frz (rowD r), .no, .no]) (w := w) (w1 := w) (a := rowD r) rfl h1 (ds := natsD r) (es := natsD (r.drop 1)) rfl
      rw [this, zip_rows]
    have := x_comp (vs := [1, 2]) (tg := gtTup 2 (gtCons (gtN 1) (gtCons (gtN 2) gtNil))) (tt := eBl (eOp oLt (vP 1) (vP 2))) (te := ePure (.int 1)) (fun p : Nat × Nat => D.ftp [.int (p.1 : Nat), .int (p.2 : Nat)]) (fun _ => false) (fun _ => D.int 1) (r.zip (r.drop 1)) hz (by rw [List.length_zip]; omega) fun p hp => ⟨[.frz (rowD r), .frz (.int (p.1 : Nat)), .frz (.int (p.2 : Nat))], rfl, by
      have := falling_drop hr.fall p hp
      have hlt : oLt (.int (p.1 : Nat)) (.int (p.2 : Nat)) = some (.bl false) := by rw [h_lt, decide_eq_false (by omega)]
      generalize rowD r = x
      bv_omega, fun h => by cases h⟩
    rw [this]
    simp
  have hT : tyD (rowD r) = some "tuple" := rfl
  have e0 : eLst eNil [.frz (rowD r), .no, .no] w = .ok (.lst []) w := x_lst x_nil (len_ok (by simp))
  have d1 : dNe (.lst []) (.lst []) = some (.bl false) := rfl
  have d2 : dEq (.lst []) (.lst []) = some (.bl true) := rfl
  have hlt : oLt (.int (n : Nat)) (.int 201) = some (.bl true) := by rw [h_lt, decide_eq_true (by omega)]
  generalize eComp (eSeq (vP 0)) [1] (gtN 1) (eNotB (eTru (eCall F__law_is_integer (eCons (vF 1) (eCons (ePure (.int 1)) (eCons (ePure (.int 200)) eNil)))))) (vF 1) = C1 at c1 ⊢
  generalize eComp (eZip (vP 0) (eSl dSl (vP 0) (eOpt (ePure (.int 1))) (ePure none))) [1, 2] (gtTup 2 (gtCons (gtN 1) (gtCons (gtN 2) gtNil))) (eBl (eOp oLt (vP 1) (vP 2))) (ePure (.int 1)) = C2 at c2 ⊢
  generalize rowD r = x at c1 c2 hsum hT e0 ⊢
  have t1 : eTru (eD (eIsi "tuple" (vP 0))) [.frz x, .no, .no] w = .ok true w := x_tru (x_d (x_isi (x_vP rfl) hT rfl)) rfl
  have t2 : eBl (eOp dNe C1 (eLst eNil)) [.frz x, .no, .no] w = .ok false w := by bv_omega
  refine s_seq (Γ1 := [.frz x, .no, .no]) (w1 := w) (s_if_f (x_or_f (x_not t1) t2) s_nil) ?_
  have t3 : eBl (eOp oLt (eCl bSum (eCons (vP 0) eNil)) (ePure (.int 201))) [.frz x, .no, .no] w = .ok true w := by bv_omega
  have t4 : eBl (eOp dEq C2 (eLst eNil)) [.frz x, .no, .no] w = .ok true w := by bv_omega
  exact s_ret (x_d (x_and_t t3 t4))
theorem eq_empty (m : List (List Nat)) : dEq (.tup (m.map rowD)) (.tup []) = some (.bl (decide (m = []))) := by
  have h1 : SeqAt.shaped (D.tup (m.map rowD)).toPy = true := by
    show SeqAt.shaped (.tuple (toPys (m.map rowD))) = true
    rw [toPys_rows]
    unfold SeqAt.shaped
    show (PyData.canLayAll0 _ && _) = true
    rw [canLay_rows, PyData.depth]
    have := depth_rows m
    rw [decide_eq_true (by omega)]; rfl
  have h2 : SeqAt.shaped (D.tup []).toPy = true := rfl
  have h3 : PyData.eqv (D.tup (m.map rowD)).toPy (D.tup []).toPy = decide (m = []) := by
    cases m with
    | nil => rfl
    | cons a b => rfl
  unfold dEq dEqv
  rw [h1, h2, h3]
  rfl

end LW

set_option Elab.async false
set_option linter.all false
set_option maxRecDepth 100000
set_option maxHeartbeats 4000000
namespace LW
open PySem DL
theorem f_step_top (w : Wd) {n : Nat} {r : List Nat} (hr : Row n r) (hn : n ≤ 200) : F_stepped [rowD r] w = .ok (rowD (step r)) w := by
  refine def_ret ?_
  unfold g_stepped
  have h1 := f_req_row w hr hn
  have h2 := f_stepped w hr hn
  generalize rowD (step r) = y at h2 ⊢
  generalize rowD r = x at h1 h2 ⊢
  refine s_seq (Γ1 := [.frz x]) (w1 := w) (s_drop (d := .non) ?_) ?_
  · show eCall _ _ [.frz x] w = _
    bv_omega
  · bv_omega
theorem Row.pl {n : Nat} {r : List Nat} (hr : Row n r) (hn : n ≤ 200) : Pl 1 r.length (rowD r).toPy := Pl.row fun p hp => by have := hr.le p hp; omega
theorem nodup_leN : ∀ (L M : List Nat), L.Nodup → (∀ x ∈ L, x ∈ M) → L.length ≤ M.length
  | [], _, _, _ => Nat.zero_le _
  | a :: L, M, hn, h => by
    have hc := List.nodup_cons.mp hn
    have ha := h a (List.mem_cons_self ..)
    have := nodup_leN L (M.erase a) hc.2 fun x hx => by
      have hne : x ≠ a := fun e => hc.1 (e ▸ hx)
      exact (List.mem_erase_of_ne hne).mpr (h x (List.mem_cons_of_mem _ hx))
    have e := List.length_erase_of_mem ha
    have hp := List.length_pos_of_mem ha
    rw [List.length_cons]; omega
def heapsL (r : List Nat) : List Nat := (ddp r.reverse).filter fun p => decide (r.length ≤ p + 1)
theorem heaps_len (r : List Nat) : (heapsL r).length = (prt r).length := by
  have h1 : (heapsL r).Nodup := (ddp_nodup _).filter _
  have h2 : (prt r).Nodup := ddp_nodup _
  have hm : ∀ p, p ∈ heapsL r ↔ p ∈ prt r := fun p => by
    unfold heapsL
    rw [List.mem_filter, ddp_mem, List.mem_reverse, prt_mem]
    simp
  exact Nat.le_antisymm (nodup_leN _ _ h1 fun x hx => (hm x).mp hx) (nodup_leN _ _ h2 fun x hx => (hm x).mpr hx)
theorem isort_len (L : List (List Nat)) : (isort leL L).length = L.length := (isort_perm leL L).length_eq
theorem AH_len {r : List Nat} (h : r ≠ []) : (AH r).length = (heapsL r).length := by
  unfold AH
  rw [if_neg h, isort_len, List.length_map, heaps_len]
theorem AH_mem {n : Nat} {r : List Nat} (hr : Row n r) : ∀ s ∈ AH r, Row n s ∧ step s = r := fun s hs => by
  unfold AH at hs
  by_cases h : r = []
  · rw [if_pos h, List.mem_singleton] at hs
    subst h hs
    exact ⟨hr, rfl⟩
  · rw [if_neg h] at hs
    have hs := (isort_perm leL _).mem_iff.mp hs
    obtain ⟨p, hp, rfl⟩ := List.mem_map.mp hs
    obtain ⟨h1, h2⟩ := prt_mem.mp hp
    have := ahd_facts hr h1 h2
    exact ⟨this.1, this.2.1⟩
def bgB (r : List Nat) : Bool := !decide (r = []) && decide (r.headD 0 + 1 < r.length)
theorem AH_nil {n : Nat} {r : List Nat} (hr : Row n r) : decide (AH r = []) = bgB r := by
  unfold bgB
  cases r with
  | nil => rfl
  | cons a t =>
    have hl := AH_len (r := a :: t) (by simp)
    rw [heaps_len] at hl
    have hf := List.pairwise_cons.mp hr.fall
    show decide (AH (a :: t) = []) = (true && decide (a + 1 < (a :: t).length))
    rw [Bool.true_and]
    refine decide_eq_decide.mpr ⟨fun h => ?_, fun h => ?_⟩
    · rw [h] at hl
      apply Nat.lt_of_not_le
      intro hle
      have : a ∈ prt (a :: t) := prt_mem.mpr ⟨List.mem_cons_self .., hle⟩
      have := List.length_pos_of_mem this
      rw [← hl] at this
      simp at this
    · have : prt (a :: t) = [] := by
        apply List.eq_nil_iff_forall_not_mem.mpr
        intro p hp
        obtain ⟨h1, h2⟩ := prt_mem.mp hp
        rcases List.mem_cons.mp h1 with rfl | h1
        · omega
        · have : p ≤ a := hf.1 p h1
          omega
      rw [this] at hl
      exact List.eq_nil_of_length_eq_zero hl
theorem bl_eq (b : Bool) : dEq (.bl b) (.bl b) = some (.bl true) := by cases b <;> rfl
theorem for_eq {fi : EX (List D)} {tg : FT} {b : SX} {Γ : Ev} {w w1 : Wd} {L : List D} (h : fi Γ w = .ok L w1) : sFor fi tg b Γ w = sForL tg b L Γ w1 := by
  unfold sFor R.on
  rw [h]
theorem step_one (w1 : Wd) {x c k y4 y5 y6 y7 y8 y9 y10 : Sl} {n : Nat} {r : List Nat} (hr : Row n r) (hn : n ≤ 200) (t : Nat) : b__law_right_1 [c, x, k, .frz (rowD (it step t r)), y4, y5, y6, y7, y8, y9, y10] w1 = .nx [c, x, k, .frz (rowD (it step (t + 1) r)), y4, y5, y6, y7, y8, y9, y10] w1 := by
  have hs := f_law_step w1 (it_row t hr) hn
  rw [← it_succ step] at hs
  generalize rowD (it step (t + 1) r) = b at hs ⊢
  generalize rowD (it step t r) = a at hs ⊢
  unfold b__law_right_1
  bv_omega
theorem for_step (w : Wd) {x c k y5 y6 y7 y8 y9 y10 : Sl} {n : Nat} {r : List Nat} (hr : Row n r) (hn : n ≤ 200) : ∀ (l : List D) (t : Nat) (y4 : Sl), ∃ y4', sForL (gtN 4) b__law_right_1 l [c, x, k, .frz (rowD (it step t r)), y4, y5, y6, y7, y8, y9, y10] w = .nx [c, x, k, .frz (rowD (it step (t + l.length) r)), y4', y5, y6, y7, y8, y9, y10] w
  | [], t, y4 => ⟨y4, rfl⟩
  | i :: l, t, y4 => by
    obtain ⟨y4', e⟩ := for_step w hr hn l (t + 1) (.frz i) (x := x) (c := c) (k := k) (y5 := y5) (y6 := y6) (y7 := y7) (y8 := y8) (y9 := y9) (y10 := y10)
    refine ⟨y4', ?_⟩
    rw [List.length_cons, show t + (l.length + 1) = t + 1 + l.length by omega, ← e]
    have h1 : gtN 4 i [c, x, k, .frz (rowD (it step t r)), y4, y5, y6, y7, y8, y9, y10] = some [c, x, k, .frz (rowD (it step t r)), .frz i, y5, y6, y7, y8, y9, y10] := rfl
    have h2 := step_one w (x := x) (c := c) (k := k) (y4 := .frz i) (y5 := y5) (y6 := y6) (y7 := y7) (y8 := y8) (y9 := y9) (y10 := y10) hr hn t
    conv => lhs; unfold sForL
    rw [h1]
    dsimp only
    rw [h2]
    rfl
theorem step_loop {x c y4 y5 y6 y7 y8 y9 y10 : Sl} {n : Nat} {r : List Nat} (hr : Row n r) (hn : n ≤ 200) (w : Wd) (j : Nat) (hj : j ≤ 1000) : ∃ y4', sFor (eRg1 (vF 2)) (gtN 4) b__law_right_1 [c, x, .frz (.int (j : Nat)), .frz (rowD r), y4, y5, y6, y7, y8, y9, y10] w = .nx [c, x, .frz (.int (j : Nat)), .frz (rowD (it step j r)), y4', y5, y6, y7, y8, y9, y10] w := by
  have hrg : rg1 (.int (j : Nat)) = some (rangeD 0 j) := h_rg1 (Nat.lt_of_le_of_lt hj (by decide))
  have hlen : (rangeD 0 j).length = j := by rw [rangeD0, List.length_map, List.length_range]
  obtain ⟨y4', e⟩ := for_step w hr hn (rangeD 0 j) 0 y4 (x := x) (c := c) (k := .frz (.int (j : Nat))) (y5 := y5) (y6 := y6) (y7 := y7) (y8 := y8) (y9 := y9) (y10 := y10)
  rw [hlen, Nat.zero_add] at e
  have h0 : it step 0 r = r := rfl
  rw [h0] at e
  refine ⟨y4', ?_⟩
  clear hlen
  generalize rangeD 0 j = L at e hrg
  generalize rowD (it step j r) = b at e ⊢
  generalize rowD r = a at e ⊢
  have e0 : eRg1 (vF 2) [c, x, .frz (.int (j : Nat)), .frz a, y4, y5, y6, y7, y8, y9, y10] w = .ok L w := by bv_omega
  rw [for_eq e0]
  exact e
end LW

set_option Elab.async false
set_option linter.all false
set_option maxRecDepth 100000
set_option maxHeartbeats 4000000
namespace LW
open PySem DL
theorem heaps_comp (w : Wd) {n : Nat} {r : List Nat} (hr : Row n r) (hn : n ≤ 63) {c y2 y3 y4 y5 y6 y7 y8 y9 y10 : Sl} : eComp (eSeq (eCall F__law_ascending (eCons (vF 1) eNil))) [9] (gtN 9) (eBl (eOp oGe (vP 9) (eOp dSub (eCl bLenS (eCons (vP 1) eNil)) (ePure (.int 1))))) (vF 9) [c, .frz (rowD r), y2, y3, y4, y5, y6, y7, y8, y9, y10] w = .ok (.lst (natsD (heapsL r))) w := by
  have hl := hr.len
  have ha := f_asc_row w hr.fall (by omega)
  have hdl := ddp_len r.reverse
  rw [List.length_reverse] at hdl
  have hln : bLenS [rowD r] = some (.int (r.length : Nat)) := h_lenR
  have hsub : dSub (.int (r.length : Nat)) (.int 1) = some (.int ((r.length : Int) - 1)) := rfl
  have := x_comp (fi := eSeq (eCall F__law_ascending (eCons (vF 1) eNil))) (vs := [9]) (tg := gtN 9) (tt := eBl (eOp oGe (vP 9) (eOp dSub (eCl bLenS (eCons (vP 1) eNil)) (ePure (.int 1))))) (te := vF 9) (Γ := [c, .frz (rowD r), y2, y3, y4, y5, y6, y7, y8, y9, y10]) (w := w) (w1 := w) (fun n : Nat => D.int (n : Nat)) (fun p => decide (r.length ≤ p + 1)) (fun n : Nat => D.int (n : Nat)) (ddp r.reverse) (by
    show _ = R.ok (natsD (ddp r.reverse)) w
    have hsq : seqD (.lst (natsD (ddp r.reverse))) = some (natsD (ddp r.reverse)) := rfl
    generalize natsD (ddp r.reverse) = z at ha hsq ⊢
    generalize rowD r = x at ha ⊢
    bv_omega) (by omega) fun p hp => ⟨[c, .frz (rowD r), y2, y3, y4, y5, y6, y7, y8, .frz (.int (p : Nat)), y10], rfl, by
      have hge : oGe (.int (p : Nat)) (.int ((r.length : Int) - 1)) = some (.bl (decide (r.length ≤ p + 1))) := by
        rw [h_ge]
        congr 2
        exact decide_eq_decide.mpr (by omega)
      generalize decide (r.length ≤ p + 1) = b at hge ⊢
      generalize rowD r = x at hln ⊢
      generalize (r.length : Int) - 1 = z at hsub hge
      bv_omega, fun _ => rfl⟩
  rw [this]
  rfl
theorem ahead_comp (w : Wd) {n : Nat} {r : List Nat} (hr : Row n r) (hn : n ≤ 200) {c y2 y3 y4 y5 y6 y8 y9 y10 : Sl} : eComp (eSeq (vP 7)) [10] (gtN 10) (eOr (eNotB (eTru (eCall F__law_is_row (eCons (vF 10) eNil)))) (eBl (eOp dNe (eCall F__law_step (eCons (vF 10) eNil)) (vP 1)))) (vF 10) [c, .frz (rowD r), y2, y3, y4, y5, y6, .frz (.tup ((AH r).map rowD)), y8, y9, y10] w = .ok (.lst []) w := by
  have hm := AH_mem hr
  have hlen : (AH r).length ≤ 300 := by
    by_cases h : r = []
    · subst h; decide
    · rw [AH_len h, heaps_len]
      have := prt_len r
      have := hr.len
      omega
  have := x_comp (fi := eSeq (vP 7)) (vs := [10]) (tg := gtN 10) (tt := eOr (eNotB (eTru (eCall F__law_is_row (eCons (vF 10) eNil)))) (eBl (eOp dNe (eCall F__law_step (eCons (vF 10) eNil)) (vP 1)))) (te := vF 10) (Γ := [c, .frz (rowD r), y2, y3, y4, y5, y6, .frz (.tup ((AH r).map rowD)), y8, y9, y10]) (w := w) (w1 := w) rowD (fun _ => false) rowD (AH r) rfl (by omega) fun s hs => ⟨[c, .frz (rowD r), y2, y3, y4, y5, y6, .frz (.tup ((AH r).map rowD)), y8, y9, .frz (rowD s)], rfl, by
      obtain ⟨h1, h2⟩ := hm s hs
      have f1 := f_is_rowL w h1 hn
      have f2 := f_law_step w h1 hn
      rw [h2] at f2
      have hne : dNe (rowD r) (rowD r) = some (.bl false) := by rw [dNe_rows, decide_eq_true rfl]; rfl
      generalize (AH r).map rowD = A
      generalize rowD r = x at f2 hne ⊢
      generalize rowD s = y at f1 f2 ⊢
      have t1 : eTru (eCall F__law_is_row (eCons (vF 10) eNil)) [c, .frz x, y2, y3, y4, y5, y6, .frz (.tup A), y8, y9, .frz y] w = .ok true w := by bv_omega
      have t2 : eBl (eOp dNe (eCall F__law_step (eCons (vF 10) eNil)) (vP 1)) [c, .frz x, y2, y3, y4, y5, y6, .frz (.tup A), y8, y9, .frz y] w = .ok false w := by bv_omega
      exact x_or_f (x_not t1) t2, fun h => by cases h⟩
  rw [this]
  simp
end LW

set_option Elab.async false
set_option linter.all false
set_option maxRecDepth 100000
set_option maxHeartbeats 4000000
namespace LW
open PySem DL
theorem pw12 : dPow (.int 10) (.int 12) = some (.int 1000000000000) := by kernel_rfl
/-- first half -/
theorem right_a {w w1 w2 w3 : Wd} {c x x1 xh h0 : D} {k q b : Nat} {wa wb : Nat} {A : D} {B : List D} {n1 n2 : Nat} {y4 : Sl}
    (e1 : F__law_row [c, .int 40] w = .ok x w1) (e2 : F__law_roll [c, .int 30] w1 = .ok (.int (k : Nat)) w2) (e3 : F__law_roll [c, .int 1000000000000] w2 = .ok (.int (q : Nat)) w3)
    (s1 : F_stepped [x] w2 = .ok x1 w2) (s2 : F__law_step [x] w2 = .ok x1 w2) (p1 : Pl 1 n1 x1.toPy) (hn1 : n1 ≤ 200) (g1 : F__law_weight [x1] w2 = .ok (.int (wa : Nat)) w2) (g2 : F__law_weight [x] w2 = .ok (.int (wb : Nat)) w2) (hw : wa ≤ wb)
    (lp : sFor (eRg1 (vF 2)) (gtN 4) b__law_right_1 [.frz c, .frz x, .frz (.int (k : Nat)), .frz x, .no, .no, .no, .no, .no, .no, .no] w2 = .nx [.frz c, .frz x, .frz (.int (k : Nat)), .frz xh, y4, .no, .no, .no, .no, .no, .no] w2)
    (o1 : F_stepped_often [x, .int (k : Nat)] w2 = .ok xh w2) (p2 : Pl 1 n2 xh.toPy) (hn2 : n2 ≤ 200) (o2 : F_stepped_often [xh, .int 0] w2 = .ok xh w2) (hne : dNe xh xh = some (.bl false))
    (ro : F_run_of [x] w2 = .ok (.tup [A, .tup B]) w2) (hb : B.length = b) (hB : dIx w3 (.tup B) (.int 0) = some h0) (hq : (q : Int) < 1000000000000) (o3 : F_stepped_often [h0, .int ((q * b : Nat) : Nat)] w3 = .ok h0 w3) (hne2 : dNe h0 h0 = some (.bl false)) {rest : SX} {out : SO} :
    rest [.frz c, .frz x, .frz (.int (k : Nat)), .frz xh, y4, .frz (.tup B), .frz (.int ((q * b : Nat) : Nat)), .no, .no, .no, .no] w3 = out →
    sSeq (sPar 1 2 (eFz (eCall F__law_row (eCons (vF 0) (eCons (ePure (.int 40)) eNil)))) (eFz (eCall F__law_roll (eCons (vF 0) (eCons (ePure (.int 30)) eNil)))))
    (sSeq (sIf (eOr (eBl (eOp dNe (eCl bReprA (eCons (eCall F_stepped (eCons (vF 1) eNil)) eNil)) (eCl bReprA (eCons (eCall F__law_step (eCons (vF 1) eNil)) eNil)))) (eBl (eOp oGt (eCall F__law_weight (eCons (eCall F__law_step (eCons (vF 1) eNil)) eNil)) (eCall F__law_weight (eCons (vF 1) eNil))))) (sRet (ePure (.bl false))) sNil)
    (sSeq (sSet 3 (vF 1))
    (sSeq (sFor (eRg1 (vF 2)) (gtN 4) b__law_right_1)
    (sSeq (sIf (eOr (eBl (eOp dNe (eCl bReprA (eCons (eCall F_stepped_often (eCons (vF 1) (eCons (vF 2) eNil))) eNil)) (eCl bReprA (eCons (vP 3) eNil)))) (eBl (eOp dNe (eCall F_stepped_often (eCons (vF 3) (eCons (ePure (.int 0)) eNil))) (vP 3)))) (sRet (ePure (.bl false))) sNil)
    (sSeq (sSet 5 (eIx (eCall F_run_of (eCons (vF 1) eNil)) (ePure (.int 1))))
    (sSeq (sSet 6 (eOp dMul (eCall F__law_roll (eCons (vF 0) (eCons (eOp dPow (ePure (.int 10)) (ePure (.int 12))) eNil))) (eCl bLenS (eCons (vP 5) eNil))))
    (sSeq (sIf (eBl (eOp dNe (eCall F_stepped_often (eCons (eIx (vP 5) (ePure (.int 0))) (eCons (vF 6) eNil))) (eIx (vP 5) (ePure (.int 0))))) (sRet (ePure (.bl false))) sNil)
    rest))))))) (startE 11 [c]) w = out := by
  intro hr
  refine s_seq (Γ1 := [.frz c, .frz x, .frz (.int (k : Nat)), .no, .no, .no, .no, .no, .no, .no, .no]) (w1 := w2) ?_ ?_
  · show sPar _ _ _ _ [.frz c, .no, .no, .no, .no, .no, .no, .no, .no, .no, .no] w = _
    bv_omega
  refine s_seq (Γ1 := [.frz c, .frz x, .frz (.int (k : Nat)), .no, .no, .no, .no, .no, .no, .no, .no]) (w1 := w2) ?_ ?_
  · have t1 : eBl (eOp dNe (eCl bReprA (eCons (eCall F_stepped (eCons (vF 1) eNil)) eNil)) (eCl bReprA (eCons (eCall F__law_step (eCons (vF 1) eNil)) eNil))) [.frz c, .frz x, .frz (.int (k : Nat)), .no, .no, .no, .no, .no, .no, .no, .no] w2 = .ok false w2 :=
      x_neA (a := x1) (w' := w2) (by bv_omega) (by bv_omega) p1 (by decide) (by omega)
    have hgt : oGt (.int (wa : Nat)) (.int (wb : Nat)) = some (.bl false) := by rw [h_gt, decide_eq_false (by omega)]
    have t2 : eBl (eOp oGt (eCall F__law_weight (eCons (eCall F__law_step (eCons (vF 1) eNil)) eNil)) (eCall F__law_weight (eCons (vF 1) eNil))) [.frz c, .frz x, .frz (.int (k : Nat)), .no, .no, .no, .no, .no, .no, .no, .no] w2 = .ok false w2 := by bv_omega
    exact s_if_f (x_or_f t1 t2) s_nil
  refine s_seq (Γ1 := [.frz c, .frz x, .frz (.int (k : Nat)), .frz x, .no, .no, .no, .no, .no, .no, .no]) (w1 := w2) (by bv_omega) ?_
  refine s_seq lp ?_
  refine s_seq (Γ1 := [.frz c, .frz x, .frz (.int (k : Nat)), .frz xh, y4, .no, .no, .no, .no, .no, .no]) (w1 := w2) ?_ ?_
  · have t1 : eBl (eOp dNe (eCl bReprA (eCons (eCall F_stepped_often (eCons (vF 1) (eCons (vF 2) eNil))) eNil)) (eCl bReprA (eCons (vP 3) eNil))) [.frz c, .frz x, .frz (.int (k : Nat)), .frz xh, y4, .no, .no, .no, .no, .no, .no] w2 = .ok false w2 :=
      x_neA (a := xh) (w' := w2) (by bv_omega) (by bv_omega) p2 (by decide) (by omega)
    have t2 : eBl (eOp dNe (eCall F_stepped_often (eCons (vF 3) (eCons (ePure (.int 0)) eNil))) (vP 3)) [.frz c, .frz x, .frz (.int (k : Nat)), .frz xh, y4, .no, .no, .no, .no, .no, .no] w2 = .ok false w2 := by bv_omega
    exact s_if_f (x_or_f t1 t2) s_nil
  refine s_seq (Γ1 := [.frz c, .frz x, .frz (.int (k : Nat)), .frz xh, y4, .frz (.tup B), .no, .no, .no, .no, .no]) (w1 := w2) ?_ ?_
  · have hx : dIx w2 (.tup [A, .tup B]) (.int 1) = some (.tup B) := rfl
    bv_omega
  have hlB : bLenS [.tup B] = some (.int (b : Nat)) := by rw [h_lenT, hb]
  have hmul : dMul (.int (q : Nat)) (.int (b : Nat)) = some (.int ((q * b : Nat) : Nat)) := by
    rw [h_mul_l ⟨Int.lt_of_lt_of_le (by decide) (Int.natCast_nonneg q), Int.lt_trans hq (by decide)⟩]
    rfl
  clear hq hb
  generalize q * b = far at hmul o3 hr ⊢
  have pw := pw12
  refine s_seq (Γ1 := [.frz c, .frz x, .frz (.int (k : Nat)), .frz xh, y4, .frz (.tup B), .frz (.int (far : Nat)), .no, .no, .no, .no]) (w1 := w3) ?_ ?_
  · have z1 : eCall F__law_roll (eCons (vF 0) (eCons (eOp dPow (ePure (.int 10)) (ePure (.int 12))) eNil)) [.frz c, .frz x, .frz (.int (k : Nat)), .frz xh, y4, .frz (.tup B), .no, .no, .no, .no, .no] w2 = .ok (.int (q : Nat)) w3 :=
      x_call (x_cons (x_vF rfl) (x_cons (x_op x_pure x_pure pw) x_nil)) e3
    have z2 : eCl bLenS (eCons (vP 5) eNil) [.frz c, .frz x, .frz (.int (k : Nat)), .frz xh, y4, .frz (.tup B), .no, .no, .no, .no, .no] w3 = .ok (.int (b : Nat)) w3 := by bv_omega
    exact s_set (x_op z1 z2 hmul) rfl
  refine s_seq (Γ1 := [.frz c, .frz x, .frz (.int (k : Nat)), .frz xh, y4, .frz (.tup B), .frz (.int (far : Nat)), .no, .no, .no, .no]) (w1 := w3) ?_ hr
  have t1 : eBl (eOp dNe (eCall F_stepped_often (eCons (eIx (vP 5) (ePure (.int 0))) (eCons (vF 6) eNil))) (eIx (vP 5) (ePure (.int 0)))) [.frz c, .frz x, .frz (.int (k : Nat)), .frz xh, y4, .frz (.tup B), .frz (.int (far : Nat)), .no, .no, .no, .no] w3 = .ok false w3 := by bv_omega
  exact s_if_f t1 s_nil
end LW

set_option Elab.async false
set_option linter.all false
set_option maxRecDepth 100000
set_option maxHeartbeats 4000000
namespace LW
open PySem DL
def tail83 : SX := (sSeq (sSet 7 (eCall F_ahead_of (eCons (vF 1) eNil)))
    (sSeq (sIf (eBl (eOp dNe (eComp (eSeq (vP 7)) [10] (gtN 10) (eOr (eNotB (eTru (eCall F__law_is_row (eCons (vF 10) eNil)))) (eBl (eOp dNe (eCall F__law_step (eCons (vF 10) eNil)) (vP 1)))) (vF 10)) (eLst eNil))) (sRet (ePure (.bl false))) sNil)
    (sSeq (sSetN 8 (eComp (eSeq (eCall F__law_ascending (eCons (vF 1) eNil))) [9] (gtN 9) (eBl (eOp oGe (vP 9) (eOp dSub (eCl bLenS (eCons (vP 1) eNil)) (ePure (.int 1))))) (vF 9)))
    (sFreeze 8 (sSeq (sIf (eOr (eAnd (eBl (eOp dNe (vP 1) (eTup eNil))) (eBl (eOp dNe (eCl bLenS (eCons (vP 7) eNil)) (eCl bLenS (eCons (vP 8) eNil))))) (eBl (eOp dNe (eCl bReprA (eCons (eCall F_is_begun (eCons (vF 1) eNil)) eNil)) (eCl bReprA (eCons (eD (eBl (eOp dEq (vP 7) (eTup eNil)))) eNil))))) (sRet (ePure (.bl false))) sNil)
    (sRet (eD (eOr (eBl (eOp dEq (vP 1) (eTup eNil))) (eBl (eOp dEq (eD (eBl (eOp dEq (vP 7) (eTup eNil)))) (eD (eBl (eOp oLt (eOp dSub (eIx (vP 1) (ePure (.int 0))) (eCl bLenS (eCons (vP 1) eNil))) (eUn dNeg (ePure (.int 1))))))))))))))))
theorem right_b {w : Wd} {c : Sl} {y2 y3 y4 y5 y6 : Sl} {n : Nat} {r : List Nat} (hr : Row n r) (hn : n ≤ 63) :
    tail83 [c, .frz (rowD r), y2, y3, y4, y5, y6, .no, .no, .no, .no] w = .ret (.bl true) w := by
  have a1 := f_ahead_of w hr (by omega)
  have a2 := ahead_comp w hr (by omega) (c := c) (y2 := y2) (y3 := y3) (y4 := y4) (y5 := y5) (y6 := y6) (y8 := .no) (y9 := .no) (y10 := .no)
  have a3 := heaps_comp w hr hn (c := c) (y2 := y2) (y3 := y3) (y4 := y4) (y5 := y5) (y6 := y6) (y7 := .frz (.tup ((AH r).map rowD))) (y8 := .no) (y9 := .no) (y10 := .no)
  have a4 := f_begun w hr (by omega)
  have hb := AH_nil hr
  have q7 := eq_empty (AH r)
  rw [hb] at q7
  have q1 : dNe (rowD r) (.tup []) = some (.bl (!decide (r = []))) := dNe_rows r []
  have q2 : dEq (rowD r) (.tup []) = some (.bl (decide (r = []))) := dEq_rows r []
  have hlr : bLenS [rowD r] = some (.int (r.length : Nat)) := h_lenR
  have l7 : bLenS [.tup ((AH r).map rowD)] = some (.int ((AH r).length : Nat)) := by rw [h_lenT, List.length_map]
  have l8 : bLenS [.lst (natsD (heapsL r))] = some (.int ((heapsL r).length : Nat)) := by rw [h_lenL, List.length_map]
  have hlen : r ≠ [] → (AH r).length = (heapsL r).length := fun h => AH_len h
  have hix : r ≠ [] → dIx w (rowD r) (.int 0) = some (.int (r.headD 0 : Nat)) := fun h => by
    cases r with
    | nil => exact absurd rfl h
    | cons a t => exact h_ixR (i := 0) rfl
  have hbg : r ≠ [] → oLt (.int ((r.headD 0 : Nat) - (r.length : Nat) : Int)) (.int (-1)) = some (.bl (bgB r)) := fun h => by
    rw [h_lt]
    congr 2
    unfold bgB
    rw [decide_eq_false h, Bool.not_false, Bool.true_and]
    exact decide_eq_decide.mpr (by omega)
  have a4 : F_is_begun [rowD r] w = .ok (.bl (bgB r)) w := a4
  have hbe := bl_eq (bgB r)
  have hpl : Pl 0 0 (D.bl (bgB r)).toPy := Pl.bl
  generalize bgB r = bg at hb q7 hbg a4 hbe hpl
  generalize (AH r).length = n7 at l7 hlen
  generalize (heapsL r).length = n8 at l8 hlen
  generalize natsD (heapsL r) = H at a3 l8
  generalize (AH r).map rowD = A at a1 a2 a3 q7 l7
  unfold tail83
  have dl : dNe (.lst []) (.lst []) = some (.bl false) := rfl
  generalize rowD r = x at a1 a2 a3 a4 q1 q2 hlr hix ⊢
  refine s_seq (Γ1 := [c, .frz x, y2, y3, y4, y5, y6, .frz (.tup A), .no, .no, .no]) (w1 := w) (by bv_omega) ?_
  refine s_seq (Γ1 := [c, .frz x, y2, y3, y4, y5, y6, .frz (.tup A), .no, .no, .no]) (w1 := w) (s_if_f (x_bl (x_op a2 (x_lst x_nil (len_ok (by simp))) dl)) s_nil) ?_
  refine s_seq (Γ1 := [c, .frz x, y2, y3, y4, y5, y6, .frz (.tup A), .own (.lst H), .no, .no]) (w1 := w) (s_setN a3 rfl) ?_
  show sSeq _ _ [c, .frz x, y2, y3, y4, y5, y6, .frz (.tup A), .frz (.lst H), .no, .no] w = _
  have e0 : eTup eNil [c, .frz x, y2, y3, y4, y5, y6, .frz (.tup A), .frz (.lst H), .no, .no] w = .ok (.tup []) w := x_tup x_nil (len_ok (by simp))
  have c7 : eD (eBl (eOp dEq (vP 7) (eTup eNil))) [c, .frz x, y2, y3, y4, y5, y6, .frz (.tup A), .frz (.lst H), .no, .no] w = .ok (.bl bg) w := x_d (x_bl (x_op (x_vP rfl) e0 q7))
  have cb : eCall F_is_begun (eCons (vF 1) eNil) [c, .frz x, y2, y3, y4, y5, y6, .frz (.tup A), .frz (.lst H), .no, .no] w = .ok (.bl bg) w := x_call (x_cons (x_vF rfl) x_nil) a4
  have t3 := x_neA cb c7 hpl (by decide) (by decide)
  have t1 : eBl (eOp dNe (vP 1) (eTup eNil)) [c, .frz x, y2, y3, y4, y5, y6, .frz (.tup A), .frz (.lst H), .no, .no] w = .ok (!decide (r = [])) w := x_bl (x_op (x_vP rfl) e0 q1)
  have t2 : eBl (eOp dNe (eCl bLenS (eCons (vP 7) eNil)) (eCl bLenS (eCons (vP 8) eNil))) [c, .frz x, y2, y3, y4, y5, y6, .frz (.tup A), .frz (.lst H), .no, .no] w = .ok (!decide (((n7 : Nat) : Int) = (n8 : Nat))) w :=
    x_bl (x_op (x_cl (x_cons (x_vP rfl) x_nil) l7) (x_cl (x_cons (x_vP rfl) x_nil) l8) h_ne)
  have t12 := x_and t1 fun _ => t2
  have z : (!decide (r = []) && !decide (((n7 : Nat) : Int) = (n8 : Nat))) = false := by
    by_cases h : r = []
    · rw [decide_eq_true h]; rfl
    · have := hlen h
      rw [decide_eq_true (p := ((n7 : Nat) : Int) = (n8 : Nat)) (by omega)]; simp
  rw [z] at t12
  refine s_seq (Γ1 := [c, .frz x, y2, y3, y4, y5, y6, .frz (.tup A), .frz (.lst H), .no, .no]) (w1 := w) (s_if_f (x_or_f t12 t3) s_nil) ?_
  have u1 : eBl (eOp dEq (vP 1) (eTup eNil)) [c, .frz x, y2, y3, y4, y5, y6, .frz (.tup A), .frz (.lst H), .no, .no] w = .ok (decide (r = [])) w := x_bl (x_op (x_vP rfl) e0 q2)
  by_cases h : r = []
  · rw [decide_eq_true h] at u1
    exact s_ret (x_d (x_or_t u1))
  · rw [decide_eq_false h] at u1
    have u2 : eD (eBl (eOp oLt (eOp dSub (eIx (vP 1) (ePure (.int 0))) (eCl bLenS (eCons (vP 1) eNil))) (eUn dNeg (ePure (.int 1))))) [c, .frz x, y2, y3, y4, y5, y6, .frz (.tup A), .frz (.lst H), .no, .no] w = .ok (.bl bg) w :=
      x_d (x_bl (x_op (x_op (x_ix (x_vP rfl) x_pure (hix h)) (x_cl (x_cons (x_vP rfl) x_nil) hlr) rfl) (x_un x_pure rfl) (hbg h)))
    exact s_ret (x_d (x_or_f u1 (x_bl (x_op c7 u2 hbe))))
theorem f_right (w : Wd) (d : Nat) (hd : Dice w d) : ∃ w', F__law_right [.cell d] w = .ok (.bl true) w' ∧ Dice w' d := by
  obtain ⟨n, r, w1, e1, hr, hn, hd1⟩ := f_law_row w d 40 hd (by decide)
  obtain ⟨v, w2, e2, v0, v1, hd2⟩ := f_roll w1 d 30 hd1 (by decide) (by decide)
  obtain ⟨k, rfl⟩ : ∃ q : Nat, v = (q : Nat) := ⟨v.toNat, by omega⟩
  obtain ⟨v, w3, e3, v2, v3, hd3⟩ := f_roll w2 d 1000000000000 hd2 (by decide) (by decide)
  obtain ⟨q, rfl⟩ : ∃ q : Nat, v = (q : Nat) := ⟨v.toNat, by omega⟩
  obtain ⟨a, b, R⟩ := ring_ex w2 hn hr
  refine ⟨w3, ?_, hd3⟩
  have hk : k < 30 := by omega
  obtain ⟨y4, lp⟩ := step_loop hr (by omega) w2 k (by omega) (x := .frz (rowD r)) (c := .frz (.cell d)) (y4 := .no) (y5 := .no) (y6 := .no) (y7 := .no) (y8 := .no) (y9 := .no) (y10 := .no)
  have hs := step_row hr
  have hh := it_row k hr
  have ha := it_row a hr
  have hfar : q * b < 1000000000000000000 := by
    have h1 : q ≤ 1000000000000 := by omega
    have h2 : b ≤ 40001 := by have := R.few; omega
    have := Nat.mul_le_mul h1 h2
    omega
  have o3 := f_often w3 hn ha (k := q * b) (Int.lt_trans (b := 1000000000000000000) (by omega) (by decide))
  rw [it_period R.per] at o3
  have hB : dIx w3 (.tup ((List.range b).map fun j => rowD (it step (a + j) r))) (.int 0) = some (rowD (it step a r)) := by
    refine h_ixT (i := 0) ?_
    rw [List.getElem?_map, List.getElem?_range R.pos]; rfl
  have o1 := f_often w2 hn hr (k := k) (Int.lt_trans (b := 30) (by omega) (by decide))
  have o2 := f_often w2 hn hh (k := 0) (by decide)
  have ro := f_run_of w2 hn hr R
  refine def_ret ?_
  unfold g__law_right
  exact right_a (b := b) e1 e2 e3 (f_step_top w2 hr (by omega)) (f_law_step w2 hr (by omega)) (hs.pl (by omega)) (by have := hs.len; omega) (f_weight w2 hs (by omega)) (f_weight w2 hr (by omega)) (step_wt hr) lp o1 (hh.pl (by omega)) (by have := hh.len; omega) o2 (by rw [dNe_rows, decide_eq_true rfl]; rfl) ro (by simp) hB v3 o3 (by rw [dNe_rows, decide_eq_true rfl]; rfl) (right_b hr (by omega))
end LW

set_option Elab.async false
set_option linter.all false
set_option maxRecDepth 100000
set_option maxHeartbeats 4000000
namespace LW
open PySem DL
/-! ### all rows of small sizes -/
def RL : Nat → List (List Nat)
  | 0 => [[]]
  | 1 => [[1]]
  | 2 => [[1, 1], [2]]
  | 3 => [[1, 1, 1], [2, 1], [3]]
  | 4 => [[1, 1, 1, 1], [2, 1, 1], [2, 2], [3, 1], [4]]
  | 5 => [[1, 1, 1, 1, 1], [2, 1, 1, 1], [2, 2, 1], [3, 1, 1], [3, 2], [4, 1], [5]]
  | 6 => [[1, 1, 1, 1, 1, 1], [2, 1, 1, 1, 1], [2, 2, 1, 1], [2, 2, 2], [3, 1, 1, 1], [3, 2, 1], [3, 3], [4, 1, 1], [4, 2], [5, 1], [6]]
  | 7 => [[1, 1, 1, 1, 1, 1, 1], [2, 1, 1, 1, 1, 1], [2, 2, 1, 1, 1], [2, 2, 2, 1], [3, 1, 1, 1, 1], [3, 2, 1, 1], [3, 2, 2], [3, 3, 1], [4, 1, 1, 1], [4, 2, 1], [4, 3], [5, 1, 1], [5, 2], [6, 1], [7]]
  | 8 => [[1, 1, 1, 1, 1, 1, 1, 1], [2, 1, 1, 1, 1, 1, 1], [2, 2, 1, 1, 1, 1], [2, 2, 2, 1, 1], [2, 2, 2, 2], [3, 1, 1, 1, 1, 1], [3, 2, 1, 1, 1], [3, 2, 2, 1], [3, 3, 1, 1], [3, 3, 2], [4, 1, 1, 1, 1], [4, 2, 1, 1], [4, 2, 2], [4, 3, 1], [4, 4], [5, 1, 1, 1], [5, 2, 1], [5, 3], [6, 1, 1], [6, 2], [7, 1], [8]]
  | 9 => [[1, 1, 1, 1, 1, 1, 1, 1, 1], [2, 1, 1, 1, 1, 1, 1, 1], [2, 2, 1, 1, 1, 1, 1], [2, 2, 2, 1, 1, 1], [2, 2, 2, 2, 1], [3, 1, 1, 1, 1, 1, 1], [3, 2, 1, 1, 1, 1], [3, 2, 2, 1, 1], [3, 2, 2, 2], [3, 3, 1, 1, 1], [3, 3, 2, 1], [3, 3, 3], [4, 1, 1, 1, 1, 1], [4, 2, 1, 1, 1], [4, 2, 2, 1], [4, 3, 1, 1], [4, 3, 2], [4, 4, 1], [5, 1, 1, 1, 1], [5, 2, 1, 1], [5, 2, 2], [5, 3, 1], [5, 4], [6, 1, 1, 1], [6, 2, 1], [6, 3], [7, 1, 1], [7, 2], [8, 1], [9]]
  | 10 => [[1, 1, 1, 1, 1, 1, 1, 1, 1, 1], [2, 1, 1, 1, 1, 1, 1, 1, 1], [2, 2, 1, 1, 1, 1, 1, 1], [2, 2, 2, 1, 1, 1, 1], [2, 2, 2, 2, 1, 1], [2, 2, 2, 2, 2], [3, 1, 1, 1, 1, 1, 1, 1], [3, 2, 1, 1, 1, 1, 1], [3, 2, 2, 1, 1, 1], [3, 2, 2, 2, 1], [3, 3, 1, 1, 1, 1], [3, 3, 2, 1, 1], [3, 3, 2, 2], [3, 3, 3, 1], [4, 1, 1, 1, 1, 1, 1], [4, 2, 1, 1, 1, 1], [4, 2, 2, 1, 1], [4, 2, 2, 2], [4, 3, 1, 1, 1], [4, 3, 2, 1], [4, 3, 3], [4, 4, 1, 1], [4, 4, 2], [5, 1, 1, 1, 1, 1], [5, 2, 1, 1, 1], [5, 2, 2, 1], [5, 3, 1, 1], [5, 3, 2], [5, 4, 1], [5, 5], [6, 1, 1, 1, 1], [6, 2, 1, 1], [6, 2, 2], [6, 3, 1], [6, 4], [7, 1, 1, 1], [7, 2, 1], [7, 3], [8, 1, 1], [8, 2], [9, 1], [10]]
  | 11 => [[1, 1, 1, 1, 1, 1, 1, 1, 1, 1, 1], [2, 1, 1, 1, 1, 1, 1, 1, 1, 1], [2, 2, 1, 1, 1, 1, 1, 1, 1], [2, 2, 2, 1, 1, 1, 1, 1], [2, 2, 2, 2, 1, 1, 1], [2, 2, 2, 2, 2, 1], [3, 1, 1, 1, 1, 1, 1, 1, 1], [3, 2, 1, 1, 1, 1, 1, 1], [3, 2, 2, 1, 1, 1, 1], [3, 2, 2, 2, 1, 1], [3, 2, 2, 2, 2], [3, 3, 1, 1, 1, 1, 1], [3, 3, 2, 1, 1, 1], [3, 3, 2, 2, 1], [3, 3, 3, 1, 1], [3, 3, 3, 2], [4, 1, 1, 1, 1, 1, 1, 1], [4, 2, 1, 1, 1, 1, 1], [4, 2, 2, 1, 1, 1], [4, 2, 2, 2, 1], [4, 3, 1, 1, 1, 1], [4, 3, 2, 1, 1], [4, 3, 2, 2], [4, 3, 3, 1], [4, 4, 1, 1, 1], [4, 4, 2, 1], [4, 4, 3], [5, 1, 1, 1, 1, 1, 1], [5, 2, 1, 1, 1, 1], [5, 2, 2, 1, 1], [5, 2, 2, 2], [5, 3, 1, 1, 1], [5, 3, 2, 1], [5, 3, 3], [5, 4, 1, 1], [5, 4, 2], [5, 5, 1], [6, 1, 1, 1, 1, 1], [6, 2, 1, 1, 1], [6, 2, 2, 1], [6, 3, 1, 1], [6, 3, 2], [6, 4, 1], [6, 5], [7, 1, 1, 1, 1], [7, 2, 1, 1], [7, 2, 2], [7, 3, 1], [7, 4], [8, 1, 1, 1], [8, 2, 1], [8, 3], [9, 1, 1], [9, 2], [10, 1], [11]]
  | _ => []
theorem okR12 : ∀ n, n < 12 → okR n = true := by decide +kernel
theorem SR_RL : ∀ n, n < 12 → SR n = RL n := by decide +kernel
def rowB (n : Nat) (r : List Nat) : Bool := decide (r.Pairwise (fun a b => b ≤ a)) && (r.all (fun p => Nat.ble 1 p) && Nat.beq r.sum n)
theorem rowB_ok {n : Nat} {r : List Nat} (h : rowB n r = true) : Row n r := by
  unfold rowB at h
  rw [Bool.and_eq_true, Bool.and_eq_true] at h
  exact ⟨of_decide_eq_true h.1, fun p hp => Nat.le_of_ble_eq_true (List.all_eq_true.mp h.2.1 p hp), Nat.eq_of_beq_eq_true h.2.2⟩
theorem RL_row' : ∀ n, n < 12 → (RL n).all (rowB n) = true := by decide +kernel
theorem RL_row {n : Nat} (hn : n < 12) : ∀ r ∈ RL n, Row n r := fun r hr => rowB_ok (List.all_eq_true.mp (RL_row' n hn) r hr)
theorem RL_len : ∀ n, n < 12 → 0 < (RL n).length ∧ (RL n).length ≤ 100 := by decide +kernel
def ltB (r : List Nat) : Bool := !decide (r = []) && decide (r.length + 1 < r.headD 0)
def due (n : Nat) : List (List Nat) := (RL n).filter fun s => !decide (s ∈ (RL n).map step)
theorem due_ok : ∀ n, n < 12 → (RL n).filter bgB = due n ∧ ((RL n).filter ltB).length = (due n).length := by decide +kernel
theorem AH_ok : ∀ n, n < 12 → ((RL n).all fun r => decide ((RL n).filter (fun s => decide (step s = r)) = AH r)) = true := by decide +kernel
theorem lr_0 (w : Wd) : F__law_rows [.int 0] w = .ok (.lst ((RL 0).map rowD)) w := by kernel_rfl
theorem lr_1 (w : Wd) : F__law_rows [.int 1] w = .ok (.lst ((RL 1).map rowD)) w := by kernel_rfl
theorem lr_2 (w : Wd) : F__law_rows [.int 2] w = .ok (.lst ((RL 2).map rowD)) w := by kernel_rfl
theorem lr_3 (w : Wd) : F__law_rows [.int 3] w = .ok (.lst ((RL 3).map rowD)) w := by kernel_rfl
theorem lr_4 (w : Wd) : F__law_rows [.int 4] w = .ok (.lst ((RL 4).map rowD)) w := by kernel_rfl
theorem lr_5 (w : Wd) : F__law_rows [.int 5] w = .ok (.lst ((RL 5).map rowD)) w := by kernel_rfl
theorem lr_6 (w : Wd) : F__law_rows [.int 6] w = .ok (.lst ((RL 6).map rowD)) w := by kernel_rfl
theorem lr_7 (w : Wd) : F__law_rows [.int 7] w = .ok (.lst ((RL 7).map rowD)) w := by kernel_rfl
theorem lr_8 (w : Wd) : F__law_rows [.int 8] w = .ok (.lst ((RL 8).map rowD)) w := by kernel_rfl
theorem lr_9 (w : Wd) : F__law_rows [.int 9] w = .ok (.lst ((RL 9).map rowD)) w := by kernel_rfl
theorem lr_10 (w : Wd) : F__law_rows [.int 10] w = .ok (.lst ((RL 10).map rowD)) w := by kernel_rfl
theorem lr_11 (w : Wd) : F__law_rows [.int 11] w = .ok (.lst ((RL 11).map rowD)) w := by kernel_rfl
theorem f_law_rows (w : Wd) {n : Nat} (hn : n < 12) : F__law_rows [.int (n : Nat)] w = .ok (.lst ((RL n).map rowD)) w := by
  match n, hn with
  | 0, _ => exact lr_0 w
  | 1, _ => exact lr_1 w
  | 2, _ => exact lr_2 w
  | 3, _ => exact lr_3 w
  | 4, _ => exact lr_4 w
  | 5, _ => exact lr_5 w
  | 6, _ => exact lr_6 w
  | 7, _ => exact lr_7 w
  | 8, _ => exact lr_8 w
  | 9, _ => exact lr_9 w
  | 10, _ => exact lr_10 w
  | 11, _ => exact lr_11 w
  | n + 12, h => omega
end LW

set_option Elab.async false
set_option linter.all false
set_option maxRecDepth 100000
set_option maxHeartbeats 4000000
namespace LW
open PySem DL
theorem f_req_size (w : Wd) {n : Nat} (hn : n < 12) : F_require_size [.int (n : Nat), .int 25] w = .ok .non w := by
  have h := req_num w (n : Nat) 0 25 (by omega) (by omega) (by omega) (by omega)
  refine defOf_nx (Γ := startE 2 [.int (n : Nat), .int 25]) ?_
  unfold g_require_size
  refine s_drop (d := .non) ?_
  show eCall _ _ [.frz (.int (n : Nat)), .frz (.int 25)] w = _
  generalize ((n : Nat) : Int) = z at h ⊢
  bv_omega
theorem begun_comp (w : Wd) {n : Nat} (hn : n < 12) : eComp (eSeq (eCall F_rows_by (eCons (vF 0) (eCons (vF 0) eNil)))) [1] (gtN 1) (eTru (eCall F_is_begun_in (eCons (vF 1) eNil))) (vF 1) [.frz (.int (n : Nat)), .no] w = .ok (.lst ((due n).map rowD)) w := by
  have hr := f_rows_by w (n := n) (by omega) (okR12 n hn)
  rw [SR_RL n hn] at hr
  have hl := (RL_len n hn).2
  have := x_comp (fi := eSeq (eCall F_rows_by (eCons (vF 0) (eCons (vF 0) eNil)))) (vs := [1]) (tg := gtN 1) (tt := eTru (eCall F_is_begun_in (eCons (vF 1) eNil))) (te := vF 1) (Γ := [.frz (.int (n : Nat)), .no]) (w := w) (w1 := w) rowD bgB rowD (RL n) (by
    have hs : seqD (.lst ((RL n).map rowD)) = some ((RL n).map rowD) := rfl
    generalize (RL n).map rowD = L at hr hs ⊢
    generalize ((n : Nat) : Int) = z at hr ⊢
    bv_omega) (by omega) fun r hm => ⟨[.frz (.int (n : Nat)), .frz (rowD r)], rfl, by
      have h1 : F_is_begun_in [rowD r] w = .ok (.bl (bgB r)) w := f_begun_in w (RL_row hn r hm) (by omega)
      have ht : dTru (.bl (bgB r)) = some (bgB r) := rfl
      generalize bgB r = b at h1 ht ⊢
      generalize rowD r = x at h1 ⊢
      bv_omega, fun _ => rfl⟩
  rw [this, (due_ok n hn).1]
theorem f_begun_rows (w : Wd) {n : Nat} (hn : n < 12) : F_begun_rows [.int (n : Nat)] w = .ok (.tup ((due n).map rowD)) w := by
  have h1 := f_req_size w hn
  have h2 := begun_comp w hn
  have h3 : bTuple [.lst ((due n).map rowD)] = some (.tup ((due n).map rowD)) := rfl
  refine def_ret ?_
  unfold g_begun_rows
  generalize (due n).map rowD = L at h2 h3 ⊢
  generalize ((n : Nat) : Int) = z at h1 h2 ⊢
  refine s_seq (Γ1 := [.frz (.int z), .no]) (w1 := w) (s_drop (d := .non) ?_) ?_
  · show eCall _ _ [.frz (.int z), .no] w = _
    bv_omega
  · exact s_ret (x_cl (x_cons h2 x_nil) h3)
theorem f_count_begun (w : Wd) {n : Nat} (hn : n < 12) : F_count_begun [.int (n : Nat)] w = .ok (.int ((due n).length : Nat)) w := by
  have h1 := f_req_size w hn
  have h2 := begun_comp w hn
  have h3 : bLenS [.lst ((due n).map rowD)] = some (.int ((due n).length : Nat)) := by rw [h_lenL, List.length_map]
  refine def_ret ?_
  unfold g_count_begun
  generalize (due n).map rowD = L at h2 h3
  generalize (due n).length = k at h3 ⊢
  generalize ((n : Nat) : Int) = z at h1 h2 ⊢
  refine s_seq (Γ1 := [.frz (.int z), .no]) (w1 := w) (s_drop (d := .non) ?_) ?_
  · show eCall _ _ [.frz (.int z), .no] w = _
    bv_omega
  · exact s_ret (x_cl (x_cons h2 x_nil) h3)
theorem rows_pl {n : Nat} {L : List (List Nat)} (h : ∀ r ∈ L, Row n r) (hn : n ≤ 100) : Pl 2 (L.length * 101) (D.tup (L.map rowD)).toPy := by
  have := Pl.tup (k := 1) (n := 100) (ds := L.map rowD) fun x hx => by
    obtain ⟨r, hr, rfl⟩ := List.mem_map.mp hx
    have := (h r hr).len
    exact ((h r hr).pl (by omega)).mono (Nat.le_refl _) (by omega)
  rw [List.length_map] at this
  exact this
theorem due_len {n : Nat} (hn : n < 12) : (due n).length ≤ 100 := Nat.le_trans (List.length_filter_le _ _) (RL_len n hn).2
theorem pair_pl {n : Nat} (hn : n < 12) : Pl 3 30000 (D.lst [.tup ((due n).map rowD), .int ((due n).length : Nat)]).toPy := by
  have hl := due_len hn
  have p1 := rows_pl (L := due n) (n := n) (fun r hr => RL_row hn r (List.mem_filter.mp hr).1) (by omega)
  have := Pl.lst (k := 2) (n := 10100) (ds := [.tup ((due n).map rowD), .int ((due n).length : Nat)]) fun x hx => by
    rcases List.mem_cons.mp hx with rfl | hx
    · exact p1.mono (Nat.le_refl _) (by omega)
    · rw [List.mem_singleton] at hx
      subst hx
      exact (Pl.nat (by omega)).mono (by omega) (by omega)
  exact this.mono (Nat.le_refl _) (by show 2 * (10100 + 1) ≤ 30000; decide)
theorem f_all_right (w : Wd) (d : Nat) (hd : Dice w d) : ∃ w', F__law_all_right [.cell d] w = .ok (.bl true) w' ∧ Dice w' d := by
  obtain ⟨v, w1, e1, v0, v1, hd1⟩ := f_roll w d 12 hd (by decide) (by decide)
  obtain ⟨n, rfl⟩ : ∃ q : Nat, v = (q : Nat) := ⟨v.toNat, by omega⟩
  have hn : n < 12 := by omega
  have hl := RL_len n hn
  have e2 := f_law_rows w1 hn
  obtain ⟨x, w2, e3, hx, hd2⟩ := f_pick w1 d (ds := (RL n).map rowD) hd1 (by
    intro e
    have := congrArg List.length e
    rw [List.length_map] at this
    simp at this
    have := hl.1
    simp_all) (by rw [List.length_map]; omega)
  obtain ⟨r, hr, rfl⟩ := List.mem_map.mp hx
  refine ⟨w2, ?_, hd2⟩
  have row := RL_row hn r hr
  have a1 := f_ahead_of w2 row (by omega)
  have hAH := of_decide_eq_true (List.all_eq_true.mp (AH_ok n hn) r hr)
  have c1 : ∀ {y0 y1 y3 y4 y5 y6 : Sl}, y3 = .frz (rowD r) → eComp (eSeq (vP 2)) [6] (gtN 6) (eBl (eOp dEq (eCall F__law_step (eCons (vF 6) eNil)) (vP 3))) (vF 6) [y0, y1, .frz (.lst ((RL n).map rowD)), y3, y4, y5, y6] w2 = .ok (.lst ((AH r).map rowD)) w2 := fun {y0 y1 y3 y4 y5 y6} h3 => by
    subst h3
    have := x_comp (fi := eSeq (vP 2)) (vs := [6]) (tg := gtN 6) (tt := eBl (eOp dEq (eCall F__law_step (eCons (vF 6) eNil)) (vP 3))) (te := vF 6) (Γ := [y0, y1, .frz (.lst ((RL n).map rowD)), .frz (rowD r), y4, y5, y6]) (w := w2) (w1 := w2) rowD (fun s => decide (step s = r)) rowD (RL n) rfl (by omega) fun s hs => ⟨[y0, y1, .frz (.lst ((RL n).map rowD)), .frz (rowD r), y4, y5, .frz (rowD s)], rfl, by
      have f := f_law_step w2 (RL_row hn s hs) (by omega)
      have q := dEq_rows (step s) r
      generalize decide (step s = r) = b at q ⊢
      generalize rowD (step s) = u at f q
      generalize rowD s = t at f ⊢
      generalize rowD r = z at q ⊢
      generalize (RL n).map rowD = L
      bv_omega, fun _ => rfl⟩
    rw [this, hAH]
  have c2 : ∀ {y0 y1 y3 y4 y5 y6 : Sl}, eComp (eSeq (vP 2)) [6] (gtN 6) (ePure true) (eCall F__law_step (eCons (vF 6) eNil)) [y0, y1, .frz (.lst ((RL n).map rowD)), y3, y4, y5, y6] w2 = .ok (.lst (((RL n).map step).map rowD)) w2 := fun {y0 y1 y3 y4 y5 y6} => by
    have := x_map (fi := eSeq (vP 2)) (vs := [6]) (tg := gtN 6) (te := eCall F__law_step (eCons (vF 6) eNil)) (Γ := [y0, y1, .frz (.lst ((RL n).map rowD)), y3, y4, y5, y6]) (w := w2) (w1 := w2) rowD (fun s => rowD (step s)) (RL n) rfl (by omega) fun s hs => ⟨[y0, y1, .frz (.lst ((RL n).map rowD)), y3, y4, y5, .frz (rowD s)], rfl, by
      have f := f_law_step w2 (RL_row hn s hs) (by omega)
      generalize rowD (step s) = u at f ⊢
      generalize rowD s = t at f ⊢
      generalize (RL n).map rowD = L
      bv_omega⟩
    rw [this, List.map_map]; rfl
  have c3 : ∀ {y0 y1 y3 y5 y6 : Sl}, eComp (eSeq (vP 2)) [6] (gtN 6) (eNotIn (vP 6) (vP 4)) (vF 6) [y0, y1, .frz (.lst ((RL n).map rowD)), y3, .frz (.lst (((RL n).map step).map rowD)), y5, y6] w2 = .ok (.lst ((due n).map rowD)) w2 := fun {y0 y1 y3 y5 y6} => by
    have := x_comp (fi := eSeq (vP 2)) (vs := [6]) (tg := gtN 6) (tt := eNotIn (vP 6) (vP 4)) (te := vF 6) (Γ := [y0, y1, .frz (.lst ((RL n).map rowD)), y3, .frz (.lst (((RL n).map step).map rowD)), y5, y6]) (w := w2) (w1 := w2) rowD (fun s => !decide (s ∈ (RL n).map step)) rowD (RL n) rfl (by omega) fun s hs => ⟨[y0, y1, .frz (.lst ((RL n).map rowD)), y3, .frz (.lst (((RL n).map step).map rowD)), y5, .frz (rowD s)], rfl, by
      have q := dIn_rows s ((RL n).map step)
      exact x_notin (x_vP rfl) (x_vP rfl) q, fun _ => rfl⟩
    rw [this]; rfl
  have c4 : ∀ {y0 y1 y3 y4 y5 y6 : Sl}, eComp (eSeq (vP 2)) [6] (gtN 6) (eAnd (eBl (eOp dNe (vP 6) (eTup eNil))) (eBl (eOp oGt (eOp dSub (eIx (vP 6) (ePure (.int 0))) (eCl bLenS (eCons (vP 6) eNil))) (ePure (.int 1))))) (vF 6) [y0, y1, .frz (.lst ((RL n).map rowD)), y3, y4, y5, y6] w2 = .ok (.lst (((RL n).filter ltB).map rowD)) w2 := fun {y0 y1 y3 y4 y5 y6} => by
    refine x_comp (fi := eSeq (vP 2)) (vs := [6]) (tg := gtN 6) (te := vF 6) rowD ltB rowD (RL n) rfl (by omega) fun s hs => ⟨[y0, y1, .frz (.lst ((RL n).map rowD)), y3, y4, y5, .frz (rowD s)], rfl, ?_, fun _ => rfl⟩
    have e0 : eTup eNil [y0, y1, .frz (.lst ((RL n).map rowD)), y3, y4, y5, .frz (rowD s)] w2 = .ok (.tup []) w2 := x_tup x_nil (len_ok (by simp))
    have q1 : dNe (rowD s) (.tup []) = some (.bl (!decide (s = []))) := dNe_rows s []
    refine x_and (x_bl (x_op (x_vP rfl) e0 q1)) fun h => ?_
    have hne : s ≠ [] := fun e => by rw [decide_eq_true e] at h; cases h
    have hix : dIx w2 (rowD s) (.int 0) = some (.int (s.headD 0 : Nat)) := by
      cases s with
      | nil => exact absurd rfl hne
      | cons a t => exact h_ixR (i := 0) rfl
    have hln : bLenS [rowD s] = some (.int (s.length : Nat)) := h_lenR
    have hgt : oGt (.int ((s.headD 0 : Nat) - (s.length : Nat) : Int)) (.int 1) = some (.bl (decide (s.length + 1 < s.headD 0))) := by
      have e : decide ((1 : Int) < ((s.headD 0 : Nat) - (s.length : Nat) : Int)) = decide (s.length + 1 < s.headD 0) := decide_eq_decide.mpr (by omega)
      rw [h_gt, e]
    exact x_bl (x_op (x_op (x_ix (x_vP rfl) x_pure hix) (x_cl (x_cons (x_vP rfl) x_nil) hln) rfl) x_pure hgt)
  have b1 := f_begun_rows w2 hn
  have b2 := f_count_begun w2 hn
  have hlen := (due_ok n hn).2
  have p1 := rows_pl (L := AH r) (n := n) (fun s hs => (AH_mem row s hs).1) (by omega)
  have hAl : (AH r).length ≤ 100 := by rw [← hAH]; exact Nat.le_trans (List.length_filter_le _ _) hl.2
  have p2 := pair_pl hn
  have l5 : bLenS [.lst ((due n).map rowD)] = some (.int ((due n).length : Nat)) := by rw [h_lenL, List.length_map]
  have l6 : bLenS [.lst (((RL n).filter ltB).map rowD)] = some (.int ((due n).length : Nat)) := by rw [h_lenL, List.length_map, hlen]
  have t1 : bTuple [.lst ((AH r).map rowD)] = some (.tup ((AH r).map rowD)) := rfl
  have t2 : bTuple [.lst ((due n).map rowD)] = some (.tup ((due n).map rowD)) := rfl
  have heq : dEq (.int ((due n).length : Nat)) (.int ((due n).length : Nat)) = some (.bl true) := by rw [h_eq, decide_eq_true rfl]
  generalize (due n).length = k at b2 p2 l5 l6 heq
  generalize (due n).map rowD = U at c3 b1 p2 l5 t2
  generalize ((RL n).filter ltB).map rowD = V at c4 l6
  generalize ((RL n).map step).map rowD = S at c2 c3
  generalize (RL n).map rowD = L at e2 e3 c1 c2 c3 c4
  generalize (AH r).map rowD = A at a1 c1 p1 t1
  generalize rowD r = x at e3 a1 c1
  generalize ((n : Nat) : Int) = z at e1 e2 b1 b2
  refine def_ret ?_
  unfold g__law_all_right
  have pairS : ∀ {Γ : Ev} {f g : EX D}, f Γ w2 = .ok (.tup U) w2 → g Γ w2 = .ok (.int (k : Nat)) w2 → eLst (eCons f (eCons g eNil)) Γ w2 = .ok (.lst [.tup U, .int (k : Nat)]) w2 := fun h1 h2 => x_lst (x_cons h1 (x_cons h2 x_nil)) (len_ok (by simp))
  refine s_seq (Γ1 := [.frz (.cell d), .frz (.int z), .no, .no, .no, .no, .no]) (w1 := w1) ?_ ?_
  · exact s_set (x_call (x_cons (x_vF rfl) (x_cons x_pure x_nil)) e1) rfl
  refine s_seq (Γ1 := [.frz (.cell d), .frz (.int z), .frz (.lst L), .no, .no, .no, .no]) (w1 := w1) ?_ ?_
  · exact s_set (x_call (x_cons (x_vF rfl) x_nil) e2) rfl
  refine s_seq (Γ1 := [.frz (.cell d), .frz (.int z), .frz (.lst L), .frz x, .no, .no, .no]) (w1 := w2) ?_ ?_
  · exact s_set (x_call (x_cons (x_vF rfl) (x_cons (x_vF rfl) x_nil)) e3) rfl
  refine s_seq (Γ1 := [.frz (.cell d), .frz (.int z), .frz (.lst L), .frz x, .no, .no, .no]) (w1 := w2) ?_ ?_
  · exact s_if_f (x_neA (a := .tup A) (w' := w2) (x_call (x_cons (x_vF rfl) x_nil) a1) (x_cl (x_cons (c1 rfl) x_nil) t1) p1 (by decide) (by omega)) s_nil
  refine s_seq (Γ1 := [.frz (.cell d), .frz (.int z), .frz (.lst L), .frz x, .frz (.lst S), .no, .no]) (w1 := w2) (s_set c2 rfl) ?_
  refine s_seq (Γ1 := [.frz (.cell d), .frz (.int z), .frz (.lst L), .frz x, .frz (.lst S), .own (.lst U), .no]) (w1 := w2) (s_setN c3 rfl) ?_
  show sSeq _ _ [.frz (.cell d), .frz (.int z), .frz (.lst L), .frz x, .frz (.lst S), .frz (.lst U), .no] w2 = _
  refine s_seq (Γ1 := [.frz (.cell d), .frz (.int z), .frz (.lst L), .frz x, .frz (.lst S), .frz (.lst U), .no]) (w1 := w2) ?_ ?_
  · exact s_if_f (x_neA (w' := w2) (pairS (x_call (x_cons (x_vF rfl) x_nil) b1) (x_call (x_cons (x_vF rfl) x_nil) b2)) (pairS (x_cl (x_cons (x_vP rfl) x_nil) t2) (x_cl (x_cons (x_vP rfl) x_nil) l5)) p2 (by decide) (by decide)) s_nil
  · exact s_ret (x_d (x_bl (x_op (x_cl (x_cons (x_vP rfl) x_nil) l5) (x_cl (x_cons c4 x_nil) l6) heq)))
end LW

set_option Elab.async false
set_option linter.all false
set_option maxRecDepth 100000
set_option maxHeartbeats 4000000
namespace LW
open PySem DL
theorem max_min {n : Nat} (k : Nat) (hk : 1 ≤ k) : ∃ m : Nat, m ≤ k ∧ ∃ j : Int, bMin [.int (k : Nat), .int (n : Nat)] = some (.int j) ∧ bMax [.int 1, .int j] = some (.int (m : Nat)) := by
  by_cases h : n < k
  · by_cases h0 : n = 0
    · subst h0
      refine ⟨1, hk, 0, ?_, rfl⟩
      have : bMin [.int (k : Nat), .int ((0 : Nat) : Nat)] = some (.int (if ((0 : Nat) : Int) < (k : Nat) then ((0 : Nat) : Int) else (k : Nat))) := rfl
      rw [this, if_pos (by omega)]; rfl
    · refine ⟨n, by omega, (n : Nat), ?_, ?_⟩
      · have : bMin [.int (k : Nat), .int (n : Nat)] = some (.int (if ((n : Nat) : Int) < (k : Nat) then ((n : Nat) : Int) else (k : Nat))) := rfl
        rw [this, if_pos (by omega)]
      · have : bMax [.int 1, .int (n : Nat)] = some (.int (if (1 : Int) < (n : Nat) then ((n : Nat) : Int) else 1)) := rfl
        rw [this]
        congr 2
        split <;> omega
  · refine ⟨k, Nat.le_refl _, (k : Nat), ?_, ?_⟩
    · have : bMin [.int (k : Nat), .int (n : Nat)] = some (.int (if ((n : Nat) : Int) < (k : Nat) then ((n : Nat) : Int) else (k : Nat))) := rfl
      rw [this, if_neg (by omega)]
    · have : bMax [.int 1, .int (k : Nat)] = some (.int (if (1 : Int) < (k : Nat) then ((k : Nat) : Int) else 1)) := rfl
      rw [this]
      congr 2
      split <;> omega
theorem it_fix {f : List Nat → List Nat} {s : List Nat} (h : f s = s) : ∀ t : Nat, it f t s = s
  | 0 => rfl
  | t + 1 => by show it f t (f s) = s; rw [h]; exact it_fix h t
theorem turn (w : Wd) (d : Nat) (hd : Dice w d) (f s x2 x3 x5 : Sl) : ∃ (y5 : Sl) (w' : Wd), sFor (eRg1 (ePure (.int 4))) (gtN 5) b_law_1 [f, s, x2, x3, .frz (.cell d), x5] w = .nx [f, s, x2, x3, .frz (.cell d), y5] w' := by
  obtain ⟨Γ', w', e, hd', y5, rfl⟩ := for_ix (tg := gtN 5) (b := b_law_1) (fun i : Nat => D.int (i : Nat)) (fun zs Γ w' => Dice w' d ∧ ∃ y5, Γ = [f, s, x2, x3, .frz (.cell d), y5]) (List.range 4) (List.range 4) [] [f, s, x2, x3, .frz (.cell d), x5] w (by simp) ⟨hd, _, rfl⟩ (by
    rintro zs i rest Γ w' hz ⟨hd', y5, rfl⟩
    obtain ⟨w2, e, hd2⟩ := f_right w' d hd'
    obtain ⟨w3, e3, hd3⟩ := f_all_right w2 d hd2
    refine ⟨_, [f, s, x2, x3, .frz (.cell d), .frz (.int (i : Nat))], w3, rfl, ?_, hd3, _, rfl⟩
    show b_law_1 [f, s, x2, x3, .frz (.cell d), .frz (.int (i : Nat))] w' = _
    unfold b_law_1
    have q1 : eTru (eCall F__law_right (eCons (vF 4) eNil)) [f, s, x2, x3, .frz (.cell d), .frz (.int (i : Nat))] w' = .ok true w2 := x_tru (x_call (x_cons (x_vF rfl) x_nil) e) rfl
    have q2 : eTru (eCall F__law_all_right (eCons (vF 4) eNil)) [f, s, x2, x3, .frz (.cell d), .frz (.int (i : Nat))] w2 = .ok true w3 := x_tru (x_call (x_cons (x_vF rfl) x_nil) e3) rfl
    exact s_if_f (x_or_f (x_not q1) (x_not q2)) s_nil)
  exact ⟨y5, w', s_for rfl e⟩
abbrev la : List D := [.tup [.int 3, .int 3, .int 1], .tup [.int 3], .tup [.tup [.int 2, .int 1, .int 1], .tup [.int 4]], .tup [], .bl true]
abbrev lb : List D := [.tup [.int 3, .int 2], .tup [.tup [.int 1, .int 1, .int 1, .int 1]], .int 2, .tup [], .tup [.tup []], .bl false]
abbrev all : List D := la ++ lb
theorem p_la (w : Wd) (y0 y1 y2 y3 y4 y5 : Sl) : eLst (eCons (eCall F_stepped (eCons (eTup (eCons (ePure (.int 4)) (eCons (ePure (.int 2)) (eCons (ePure (.int 1)) eNil)))) eNil)) (eCons (eCall F_stepped (eCons (eTup (eCons (ePure (.int 1)) (eCons (ePure (.int 1)) (eCons (ePure (.int 1)) eNil)))) eNil)) (eCons (eCall F_ahead_of (eCons (eTup (eCons (ePure (.int 3)) (eCons (ePure (.int 1)) eNil))) eNil)) (eCons (eCall F_ahead_of (eCons (eTup (eCons (ePure (.int 1)) (eCons (ePure (.int 1)) (eCons (ePure (.int 1)) eNil)))) eNil)) (eCons (eCall F_is_begun (eCons (eTup (eCons (ePure (.int 1)) (eCons (ePure (.int 1)) (eCons (ePure (.int 1)) eNil)))) eNil)) eNil))))) [y0, y1, y2, y3, y4, y5] w = .ok (.lst la) w := by kernel_rfl
theorem p_lb (w : Wd) (y0 y1 y2 y3 y4 y5 : Sl) : eLst (eCons (eCall F_stepped_often (eCons (eTup (eCons (ePure (.int 5)) eNil)) (eCons (ePure (.int 2)) eNil))) (eCons (eCall F_begun_rows (eCons (ePure (.int 4)) eNil)) (eCons (eCall F_count_begun (eCons (ePure (.int 5)) eNil)) (eCons (eCall F_stepped (eCons (eTup eNil) eNil)) (eCons (eCall F_ahead_of (eCons (eTup eNil) eNil)) (eCons (eCall F_is_begun (eCons (eTup eNil) eNil)) eNil)))))) [y0, y1, y2, y3, y4, y5] w = .ok (.lst lb) w := by kernel_rfl
theorem p_due (w : Wd) (y0 y1 y2 y3 y4 y5 : Sl) : eLst (eCons (eTup (eCons (ePure (.int 3)) (eCons (ePure (.int 3)) (eCons (ePure (.int 1)) eNil)))) (eCons (eTup (eCons (ePure (.int 3)) eNil)) (eCons (eTup (eCons (eTup (eCons (ePure (.int 2)) (eCons (ePure (.int 1)) (eCons (ePure (.int 1)) eNil)))) (eCons (eTup (eCons (ePure (.int 4)) eNil)) eNil))) (eCons (eTup eNil) (eCons (ePure (.bl true)) (eCons (eTup (eCons (ePure (.int 3)) (eCons (ePure (.int 2)) eNil))) (eCons (eTup (eCons (eTup (eCons (ePure (.int 1)) (eCons (ePure (.int 1)) (eCons (ePure (.int 1)) (eCons (ePure (.int 1)) eNil))))) eNil)) (eCons (ePure (.int 2)) (eCons (eTup eNil) (eCons (eTup (eCons (eTup eNil) eNil)) (eCons (ePure (.bl false)) eNil))))))))))) [y0, y1, y2, y3, y4, y5] w = .ok (.lst all) w := by kernel_rfl
theorem told_ok : dEqA (.lst all) (.lst all) = some (.bl true) := by kernel_rfl
theorem row3 : Row 3 [3] := ⟨by decide, by decide, by decide⟩
theorem st21 : step [2, 1] = [2, 1] := by decide
theorem st3 : step [3] = [2, 1] := by decide
theorem far3 (k : Nat) : it step (k + 1) [3] = [2, 1] := by
  show it step k (step [3]) = _
  rw [st3]
  exact it_fix st21 k
theorem big3 (w : Wd) {k : Nat} (hk : ((k + 1 : Nat) : Int) < 1000000000000000000000000000000000000000000000000000000000000) : F_stepped_often [rowD [3], .int ((k + 1 : Nat) : Nat)] w = .ok (rowD [2, 1]) w := by
  have := f_often w (n := 3) (by decide) row3 (k := k + 1) hk
  rw [far3] at this
  exact this
theorem c59 : ((99999999999999999999999999999999999999999999999999999999999 + 1 : Nat) : Int) = 100000000000000000000000000000000000000000000000000000000000 := rfl
theorem p59 : dPow (.int 10) (.int 59) = some (.int 100000000000000000000000000000000000000000000000000000000000) := by kernel_rfl
theorem big59 (w : Wd) : F_stepped_often [rowD [3], .int 100000000000000000000000000000000000000000000000000000000000] w = .ok (rowD [2, 1]) w := by
  have := big3 w (k := 99999999999999999999999999999999999999999999999999999999999) (by rw [c59]; decide)
  rw [c59] at this
  exact this
theorem f_law (ns : List Int) : ∃ w', F_law [.fls (ns.map D.int)] [] = .ok (.bl true) w' := by
  have hl : bLenS [.fls (ns.map D.int)] = some (.int (ns.length : Nat)) := by
    show some (D.int ((ns.map D.int).length : Nat)) = _
    rw [List.length_map]
  obtain ⟨m, hm, j, hj, hk⟩ := max_min (n := ns.length) 5 (by decide)
  have hrg : rg1 (.int (m : Nat)) = some ((List.range m).map fun i : Nat => D.int (i : Nat)) := by rw [h_rg1 (by omega), rangeD0]
  have hj : bMin [.int 5, .int (ns.length : Nat)] = some (.int j) := hj
  obtain ⟨Γ', w', e, y1, y2, y3, y4, y5, rfl⟩ := for_ix (tg := gtN 1) (b := b_law_2) (fun i : Nat => D.int (i : Nat)) (fun zs Γ w' => ∃ y1 y2 y3 y4 y5, Γ = [.frz (.fls (ns.map D.int)), y1, y2, y3, y4, y5]) (List.range m) (List.range m) [] [.frz (.fls (ns.map D.int)), .no, .no, .no, .no, .no] [] (by simp) ⟨_, _, _, _, _, rfl⟩ (by
    rintro zs i rest Γ w' hz ⟨y1, y2, y3, y4, y5, rfl⟩
    have hi : i < m := List.mem_range.mp (by rw [← hz]; simp)
    obtain ⟨d, w1, e1, d1⟩ := f_dice w' ns i (by omega)
    obtain ⟨z5, w2, e2⟩ := turn w1 d d1 (.frz (.fls (ns.map D.int))) (.frz (.int (i : Nat))) y2 y3 y5
    refine ⟨_, [.frz (.fls (ns.map D.int)), .frz (.int (i : Nat)), y2, y3, .frz (.cell d), z5], w2, rfl, ?_, _, _, _, _, _, rfl⟩
    show b_law_2 [.frz (.fls (ns.map D.int)), .frz (.int (i : Nat)), y2, y3, y4, y5] w' = _
    unfold b_law_2
    refine s_seq ?_ e2
    bv_omega)
  refine ⟨w', def_ret ?_⟩
  unfold g_law
  show sSeq _ _ [.frz (.fls (ns.map D.int)), .no, .no, .no, .no, .no] [] = _
  have e0 : eRg1 (eCl bMax (eCons (ePure (.int 1)) (eCons (eCl bMin (eCons (ePure (.int 5)) (eCons (eCl bLenS (eCons (vP 0) eNil)) eNil))) eNil))) [.frz (.fls (ns.map D.int)), .no, .no, .no, .no, .no] [] = .ok ((List.range m).map fun i : Nat => D.int (i : Nat)) [] := by bv_omega
  refine s_seq (s_for e0 e) ?_
  have b2 := told_ok
  have b3 := big59 w'
  have b4 := p59
  have b5 : dEq (rowD [2, 1]) (rowD [2, 1]) = some (.bl true) := by rw [dEq_rows, decide_eq_true rfl]
  have hla : lAdd (.lst la) (.lst lb) = some (.lst all) := h_ladd (by simp)
  refine s_seq (Γ1 := [.frz (.fls (ns.map D.int)), y1, .frz (.lst la), y3, y4, y5]) (w1 := w') (s_set (p_la w' _ _ _ _ _ _) rfl) ?_
  refine s_seq (Γ1 := [.frz (.fls (ns.map D.int)), y1, .frz (.lst all), y3, y4, y5]) (w1 := w') (s_set (x_op (x_vP rfl) (p_lb w' _ _ _ _ _ _) hla) rfl) ?_
  refine s_seq (Γ1 := [.frz (.fls (ns.map D.int)), y1, .frz (.lst all), .frz (.lst all), y4, y5]) (w1 := w') (s_set (p_due w' _ _ _ _ _ _) rfl) ?_
  have t2 : eTup (eCons (ePure (.int 2)) (eCons (ePure (.int 1)) eNil)) [.frz (.fls (ns.map D.int)), y1, .frz (.lst all), .frz (.lst all), y4, y5] w' = .ok (rowD [2, 1]) w' := x_tup (x_cons x_pure (x_cons x_pure x_nil)) (len_ok (by simp))
  have t3 : eTup (eCons (ePure (.int 3)) eNil) [.frz (.fls (ns.map D.int)), y1, .frz (.lst all), .frz (.lst all), y4, y5] w' = .ok (rowD [3]) w' := x_tup (x_cons x_pure x_nil) (len_ok (by simp))
  generalize rowD [2, 1] = r21 at b3 b5 t2
  generalize rowD [3] = r3 at b3 t3
  generalize (100000000000000000000000000000000000000000000000000000000000 : Int) = K59 at b3 b4
  exact s_ret (x_d (x_and_t (w1 := w') (x_bl (x_op (x_vP rfl) (x_vP rfl) b2)) (x_bl (x_op (x_call (x_cons t3 (x_cons (x_op x_pure x_pure b4) x_nil)) b3) t2 b5))))
end LW

set_option Elab.async false
set_option linter.all false
set_option maxRecDepth 100000
set_option maxHeartbeats 0
namespace LW
open PySem PySem.Spec PyProof.Rows L2 DL
def d_is_whole : He.DefD := ⟨("is_whole", none), "is_whole", "is_whole", defArgs s_is_whole, defBody s_is_whole, defScope s_is_whole, [], []⟩
def d_is_near : He.DefD := ⟨("is_near", none), "is_near", "is_near", defArgs s_is_near, defBody s_is_near, defScope s_is_near, [], []⟩
def d_is_within : He.DefD := ⟨("is_within", none), "is_within", "is_within", defArgs s_is_within, defBody s_is_within, defScope s_is_within, [], []⟩
def d_require_number : He.DefD := ⟨("require_number", none), "require_number", "require_number", defArgs s_require_number, defBody s_require_number, defScope s_require_number, [], []⟩
def d_is_falling : He.DefD := ⟨("is_falling", none), "is_falling", "is_falling", defArgs s_is_falling, defBody s_is_falling, defScope s_is_falling, [], []⟩
def d_is_part_row : He.DefD := ⟨("is_part_row", none), "is_part_row", "is_part_row", defArgs s_is_part_row, defBody s_is_part_row, defScope s_is_part_row, [], []⟩
def d_is_row_in : He.DefD := ⟨("is_row_in", none), "is_row_in", "is_row_in", defArgs s_is_row_in, defBody s_is_row_in, defScope s_is_row_in, [], []⟩
def d_rows_by : He.DefD := ⟨("rows_by", none), "rows_by", "rows_by", defArgs s_rows_by, defBody s_rows_by, defScope s_rows_by, [], []⟩
def d_require_row : He.DefD := ⟨("require_row", none), "require_row", "require_row", defArgs s_require_row, defBody s_require_row, defScope s_require_row, [], []⟩
def d_stepped_in : He.DefD := ⟨("stepped_in", none), "stepped_in", "stepped_in", defArgs s_stepped_in, defBody s_stepped_in, defScope s_stepped_in, [], []⟩
def d_row_ahead : He.DefD := ⟨("row_ahead", none), "row_ahead", "row_ahead", defArgs s_row_ahead, defBody s_row_ahead, defScope s_row_ahead, [], []⟩
def d_ahead_in : He.DefD := ⟨("ahead_in", none), "ahead_in", "ahead_in", defArgs s_ahead_in, defBody s_ahead_in, defScope s_ahead_in, [], []⟩
def d_is_begun_in : He.DefD := ⟨("is_begun_in", none), "is_begun_in", "is_begun_in", defArgs s_is_begun_in, defBody s_is_begun_in, defScope s_is_begun_in, [], []⟩
def d_run_in : He.DefD := ⟨("run_in", none), "run_in", "run_in", defArgs s_run_in, defBody s_run_in, defScope s_run_in, [], []⟩
def d_require_size : He.DefD := ⟨("require_size", none), "require_size", "require_size", defArgs s_require_size, defBody s_require_size, defScope s_require_size, [], []⟩
def d_stepped : He.DefD := ⟨("stepped", none), "stepped", "stepped", defArgs s_stepped, defBody s_stepped, defScope s_stepped, [], []⟩
def d_stepped_often : He.DefD := ⟨("stepped_often", none), "stepped_often", "stepped_often", defArgs s_stepped_often, defBody s_stepped_often, defScope s_stepped_often, [], []⟩
def d_ahead_of : He.DefD := ⟨("ahead_of", none), "ahead_of", "ahead_of", defArgs s_ahead_of, defBody s_ahead_of, defScope s_ahead_of, [], []⟩
def d_is_begun : He.DefD := ⟨("is_begun", none), "is_begun", "is_begun", defArgs s_is_begun, defBody s_is_begun, defScope s_is_begun, [], []⟩
def d_run_of : He.DefD := ⟨("run_of", none), "run_of", "run_of", defArgs s_run_of, defBody s_run_of, defScope s_run_of, [], []⟩
def d_begun_rows : He.DefD := ⟨("begun_rows", none), "begun_rows", "begun_rows", defArgs s_begun_rows, defBody s_begun_rows, defScope s_begun_rows, [], []⟩
def d_count_begun : He.DefD := ⟨("count_begun", none), "count_begun", "count_begun", defArgs s_count_begun, defBody s_count_begun, defScope s_count_begun, [], []⟩
def d__law_dice : He.DefD := ⟨("_law_dice", none), "_law_dice", "_law_dice", defArgs s__law_dice, defBody s__law_dice, defScope s__law_dice, [], []⟩
def d__law_roll : He.DefD := ⟨("_law_roll", none), "_law_roll", "_law_roll", defArgs s__law_roll, defBody s__law_roll, defScope s__law_roll, [], []⟩
def d__law_pick : He.DefD := ⟨("_law_pick", none), "_law_pick", "_law_pick", defArgs s__law_pick, defBody s__law_pick, defScope s__law_pick, [], []⟩
def d__law_ascending : He.DefD := ⟨("_law_ascending", none), "_law_ascending", "_law_ascending", defArgs s__law_ascending, defBody s__law_ascending, defScope s__law_ascending, [], []⟩
def d__law_is_integer : He.DefD := ⟨("_law_is_integer", none), "_law_is_integer", "_law_is_integer", defArgs s__law_is_integer, defBody s__law_is_integer, defScope s__law_is_integer, [], []⟩
def d__law_rows : He.DefD := ⟨("_law_rows", none), "_law_rows", "_law_rows", defArgs s__law_rows, defBody s__law_rows, defScope s__law_rows, [], []⟩
def d__law_is_row : He.DefD := ⟨("_law_is_row", none), "_law_is_row", "_law_is_row", defArgs s__law_is_row, defBody s__law_is_row, defScope s__law_is_row, [], []⟩
def d__law_row : He.DefD := ⟨("_law_row", none), "_law_row", "_law_row", defArgs s__law_row, defBody s__law_row, defScope s__law_row, [], []⟩
def d__law_boxes : He.DefD := ⟨("_law_boxes", none), "_law_boxes", "_law_boxes", defArgs s__law_boxes, defBody s__law_boxes, defScope s__law_boxes, [], []⟩
def d__law_step : He.DefD := ⟨("_law_step", none), "_law_step", "_law_step", defArgs s__law_step, defBody s__law_step, defScope s__law_step, [], []⟩
def d__law_weight : He.DefD := ⟨("_law_weight", none), "_law_weight", "_law_weight", defArgs s__law_weight, defBody s__law_weight, defScope s__law_weight, [], []⟩
def d__law_right : He.DefD := ⟨("_law_right", none), "_law_right", "_law_right", defArgs s__law_right, defBody s__law_right, defScope s__law_right, [], []⟩
def d__law_all_right : He.DefD := ⟨("_law_all_right", none), "_law_all_right", "_law_all_right", defArgs s__law_all_right, defBody s__law_all_right, defScope s__law_all_right, [], []⟩
def d_law : He.DefD := ⟨("law", none), "law", "law", defArgs s_law, defBody s_law, defScope s_law, [], []⟩
def fn : List He.DefD := [d_is_whole, d_is_near, d_is_within, d_require_number, d_is_falling, d_is_part_row, d_is_row_in, d_rows_by, d_require_row, d_stepped_in, d_row_ahead, d_ahead_in, d_is_begun_in, d_run_in, d_require_size, d_stepped, d_stepped_often, d_ahead_of, d_is_begun, d_run_of, d_begun_rows, d_count_begun, d__law_dice, d__law_roll, d__law_pick, d__law_ascending, d__law_is_integer, d__law_rows, d__law_is_row, d__law_row, d__law_boxes, d__law_step, d__law_weight, d__law_right, d__law_all_right, d_law]
def fa : List He.Fa := [.glo "is_whole", .glo "is_near", .glo "is_within", .glo "require_number", .glo "is_falling", .glo "is_part_row", .glo "is_row_in", .glo "rows_by", .glo "require_row", .glo "stepped_in", .glo "row_ahead", .glo "ahead_in", .glo "is_begun_in", .glo "run_in", .glo "require_size", .glo "stepped", .glo "stepped_often", .glo "ahead_of", .glo "is_begun", .glo "run_of", .glo "begun_rows", .glo "count_begun", .glo "_law_dice", .glo "_law_roll", .glo "_law_pick", .glo "_law_ascending", .glo "_law_is_integer", .glo "_law_rows", .glo "_law_is_row", .glo "_law_row", .glo "_law_boxes", .glo "_law_step", .glo "_law_weight", .glo "_law_right", .glo "_law_all_right", .glo "law", .free "IndexError", .free "ValueError", .free "abs", .free "all", .free "bool", .free "dict", .free "enumerate", .free "int", .free "isinstance", .free "len", .free "max", .free "min", .free "range", .free "repr", .free "sorted", .free "sum", .free "super", .free "tuple", .free "zip", .int "FAR" 1000000000000000000000000000000000000000000000000000000000000, .int "MOST_SIZE" 200, .int "MOST_LISTED" 25]
abbrev R : PySem.W.OpenRow := PySem.W.OpenLaw.row PySem.Challenge.rw_hookwide_k83_whole_steps_and_rows_ahead
abbrev hk : PySem.W.Hook := He.hookD 4 fa fn
def ob (s : PySem.W.SharedT) : He.AlD := He.obsDG 4 fa fn (HandSHeadRun.getT s)
theorem ob_eq (s : PySem.W.SharedT) : ob s = hk.obs s.abs := He.obsDG_eq (HandSHeadRun.getT_eq s)

def loose : List Str := (["FAR", "InvalidNumber", "InvalidRow", "MOST_LISTED", "MOST_SIZE", "PartError", "__name__", "_law_all_right", "_law_ascending", "_law_boxes", "_law_dice", "_law_is_integer", "_law_is_row", "_law_pick", "_law_right", "_law_roll", "_law_row", "_law_rows", "_law_step", "_law_weight"] : List Str) ++ (["ahead_in", "ahead_of", "begun_rows", "count_begun", "is_begun", "is_begun_in", "is_falling", "is_near", "is_part_row", "is_row_in", "is_whole", "is_within", "require_number", "require_row", "require_size", "row_ahead", "rows_by", "run_in", "run_of", "stepped"] : List Str) ++ (["stepped_in", "stepped_often"] : List Str)
theorem hd_run (w : World) : HandSHeadRun.RunEq R (PySem.W.view R.prog [46]) hk ob 3000 loose w := by
  intro os
  kernel_rfl
theorem blt {K : PySem.W.Frag} {h : Heap} {mg : Str → Option Value} (X : K.In h) (G : h.Ns mainGlobals mg) (c : He.SaysD fa fn K) : Blt mg where
  b_abs := He.free_ok X G (c.fact 38 (f := .free "abs") rfl)
  b_all := He.free_ok X G (c.fact 39 (f := .free "all") rfl)
  b_bool := He.free_ok X G (c.fact 40 (f := .free "bool") rfl)
  b_dict := He.free_ok X G (c.fact 41 (f := .free "dict") rfl)
  b_enumerate := He.free_ok X G (c.fact 42 (f := .free "enumerate") rfl)
  b_int := He.free_ok X G (c.fact 43 (f := .free "int") rfl)
  b_isinstance := He.free_ok X G (c.fact 44 (f := .free "isinstance") rfl)
  b_len := He.free_ok X G (c.fact 45 (f := .free "len") rfl)
  b_max := He.free_ok X G (c.fact 46 (f := .free "max") rfl)
  b_min := He.free_ok X G (c.fact 47 (f := .free "min") rfl)
  b_range := He.free_ok X G (c.fact 48 (f := .free "range") rfl)
  b_repr := He.free_ok X G (c.fact 49 (f := .free "repr") rfl)
  b_sorted := He.free_ok X G (c.fact 50 (f := .free "sorted") rfl)
  b_sum := He.free_ok X G (c.fact 51 (f := .free "sum") rfl)
  b_tuple := He.free_ok X G (c.fact 53 (f := .free "tuple") rfl)
  b_zip := He.free_ok X G (c.fact 54 (f := .free "zip") rfl)
  c_FAR := He.int_ok X G (c.fact 55 (f := .int "FAR" 1000000000000000000000000000000000000000000000000000000000000) rfl)
  c_MOST_LISTED := He.int_ok X G (c.fact 57 (f := .int "MOST_LISTED" 25) rfl)
  c_MOST_SIZE := He.int_ok X G (c.fact 56 (f := .int "MOST_SIZE" 200) rfl)
theorem has_is_whole {K : PySem.W.Frag} {h : Heap} {mg : Str → Option Value} (X : K.In h) (G : h.Ns mainGlobals mg) (c : He.SaysD fa fn K) : Has K mg "is_whole" "is_whole" s_is_whole := by
  obtain ⟨fd, F⟩ := c.def_ 0 (d := d_is_whole) rfl
  exact ⟨_, fd, He.glo_ok X G (c.fact 0 (f := .glo "is_whole") rfl), F⟩
theorem has_is_near {K : PySem.W.Frag} {h : Heap} {mg : Str → Option Value} (X : K.In h) (G : h.Ns mainGlobals mg) (c : He.SaysD fa fn K) : Has K mg "is_near" "is_near" s_is_near := by
  obtain ⟨fd, F⟩ := c.def_ 1 (d := d_is_near) rfl
  exact ⟨_, fd, He.glo_ok X G (c.fact 1 (f := .glo "is_near") rfl), F⟩
theorem has_is_within {K : PySem.W.Frag} {h : Heap} {mg : Str → Option Value} (X : K.In h) (G : h.Ns mainGlobals mg) (c : He.SaysD fa fn K) : Has K mg "is_within" "is_within" s_is_within := by
  obtain ⟨fd, F⟩ := c.def_ 2 (d := d_is_within) rfl
  exact ⟨_, fd, He.glo_ok X G (c.fact 2 (f := .glo "is_within") rfl), F⟩
theorem has_require_number {K : PySem.W.Frag} {h : Heap} {mg : Str → Option Value} (X : K.In h) (G : h.Ns mainGlobals mg) (c : He.SaysD fa fn K) : Has K mg "require_number" "require_number" s_require_number := by
  obtain ⟨fd, F⟩ := c.def_ 3 (d := d_require_number) rfl
  exact ⟨_, fd, He.glo_ok X G (c.fact 3 (f := .glo "require_number") rfl), F⟩
theorem has_is_falling {K : PySem.W.Frag} {h : Heap} {mg : Str → Option Value} (X : K.In h) (G : h.Ns mainGlobals mg) (c : He.SaysD fa fn K) : Has K mg "is_falling" "is_falling" s_is_falling := by
  obtain ⟨fd, F⟩ := c.def_ 4 (d := d_is_falling) rfl
  exact ⟨_, fd, He.glo_ok X G (c.fact 4 (f := .glo "is_falling") rfl), F⟩
theorem has_is_part_row {K : PySem.W.Frag} {h : Heap} {mg : Str → Option Value} (X : K.In h) (G : h.Ns mainGlobals mg) (c : He.SaysD fa fn K) : Has K mg "is_part_row" "is_part_row" s_is_part_row := by
  obtain ⟨fd, F⟩ := c.def_ 5 (d := d_is_part_row) rfl
  exact ⟨_, fd, He.glo_ok X G (c.fact 5 (f := .glo "is_part_row") rfl), F⟩
theorem has_is_row_in {K : PySem.W.Frag} {h : Heap} {mg : Str → Option Value} (X : K.In h) (G : h.Ns mainGlobals mg) (c : He.SaysD fa fn K) : Has K mg "is_row_in" "is_row_in" s_is_row_in := by
  obtain ⟨fd, F⟩ := c.def_ 6 (d := d_is_row_in) rfl
  exact ⟨_, fd, He.glo_ok X G (c.fact 6 (f := .glo "is_row_in") rfl), F⟩
theorem has_rows_by {K : PySem.W.Frag} {h : Heap} {mg : Str → Option Value} (X : K.In h) (G : h.Ns mainGlobals mg) (c : He.SaysD fa fn K) : Has K mg "rows_by" "rows_by" s_rows_by := by
  obtain ⟨fd, F⟩ := c.def_ 7 (d := d_rows_by) rfl
  exact ⟨_, fd, He.glo_ok X G (c.fact 7 (f := .glo "rows_by") rfl), F⟩
theorem has_require_row {K : PySem.W.Frag} {h : Heap} {mg : Str → Option Value} (X : K.In h) (G : h.Ns mainGlobals mg) (c : He.SaysD fa fn K) : Has K mg "require_row" "require_row" s_require_row := by
  obtain ⟨fd, F⟩ := c.def_ 8 (d := d_require_row) rfl
  exact ⟨_, fd, He.glo_ok X G (c.fact 8 (f := .glo "require_row") rfl), F⟩
theorem has_stepped_in {K : PySem.W.Frag} {h : Heap} {mg : Str → Option Value} (X : K.In h) (G : h.Ns mainGlobals mg) (c : He.SaysD fa fn K) : Has K mg "stepped_in" "stepped_in" s_stepped_in := by
  obtain ⟨fd, F⟩ := c.def_ 9 (d := d_stepped_in) rfl
  exact ⟨_, fd, He.glo_ok X G (c.fact 9 (f := .glo "stepped_in") rfl), F⟩
theorem has_row_ahead {K : PySem.W.Frag} {h : Heap} {mg : Str → Option Value} (X : K.In h) (G : h.Ns mainGlobals mg) (c : He.SaysD fa fn K) : Has K mg "row_ahead" "row_ahead" s_row_ahead := by
  obtain ⟨fd, F⟩ := c.def_ 10 (d := d_row_ahead) rfl
  exact ⟨_, fd, He.glo_ok X G (c.fact 10 (f := .glo "row_ahead") rfl), F⟩
theorem has_ahead_in {K : PySem.W.Frag} {h : Heap} {mg : Str → Option Value} (X : K.In h) (G : h.Ns mainGlobals mg) (c : He.SaysD fa fn K) : Has K mg "ahead_in" "ahead_in" s_ahead_in := by
  obtain ⟨fd, F⟩ := c.def_ 11 (d := d_ahead_in) rfl
  exact ⟨_, fd, He.glo_ok X G (c.fact 11 (f := .glo "ahead_in") rfl), F⟩
theorem has_is_begun_in {K : PySem.W.Frag} {h : Heap} {mg : Str → Option Value} (X : K.In h) (G : h.Ns mainGlobals mg) (c : He.SaysD fa fn K) : Has K mg "is_begun_in" "is_begun_in" s_is_begun_in := by
  obtain ⟨fd, F⟩ := c.def_ 12 (d := d_is_begun_in) rfl
  exact ⟨_, fd, He.glo_ok X G (c.fact 12 (f := .glo "is_begun_in") rfl), F⟩
theorem has_run_in {K : PySem.W.Frag} {h : Heap} {mg : Str → Option Value} (X : K.In h) (G : h.Ns mainGlobals mg) (c : He.SaysD fa fn K) : Has K mg "run_in" "run_in" s_run_in := by
  obtain ⟨fd, F⟩ := c.def_ 13 (d := d_run_in) rfl
  exact ⟨_, fd, He.glo_ok X G (c.fact 13 (f := .glo "run_in") rfl), F⟩
theorem has_require_size {K : PySem.W.Frag} {h : Heap} {mg : Str → Option Value} (X : K.In h) (G : h.Ns mainGlobals mg) (c : He.SaysD fa fn K) : Has K mg "require_size" "require_size" s_require_size := by
  obtain ⟨fd, F⟩ := c.def_ 14 (d := d_require_size) rfl
  exact ⟨_, fd, He.glo_ok X G (c.fact 14 (f := .glo "require_size") rfl), F⟩
theorem has_stepped {K : PySem.W.Frag} {h : Heap} {mg : Str → Option Value} (X : K.In h) (G : h.Ns mainGlobals mg) (c : He.SaysD fa fn K) : Has K mg "stepped" "stepped" s_stepped := by
  obtain ⟨fd, F⟩ := c.def_ 15 (d := d_stepped) rfl
  exact ⟨_, fd, He.glo_ok X G (c.fact 15 (f := .glo "stepped") rfl), F⟩
theorem has_stepped_often {K : PySem.W.Frag} {h : Heap} {mg : Str → Option Value} (X : K.In h) (G : h.Ns mainGlobals mg) (c : He.SaysD fa fn K) : Has K mg "stepped_often" "stepped_often" s_stepped_often := by
  obtain ⟨fd, F⟩ := c.def_ 16 (d := d_stepped_often) rfl
  exact ⟨_, fd, He.glo_ok X G (c.fact 16 (f := .glo "stepped_often") rfl), F⟩
theorem has_ahead_of {K : PySem.W.Frag} {h : Heap} {mg : Str → Option Value} (X : K.In h) (G : h.Ns mainGlobals mg) (c : He.SaysD fa fn K) : Has K mg "ahead_of" "ahead_of" s_ahead_of := by
  obtain ⟨fd, F⟩ := c.def_ 17 (d := d_ahead_of) rfl
  exact ⟨_, fd, He.glo_ok X G (c.fact 17 (f := .glo "ahead_of") rfl), F⟩
theorem has_is_begun {K : PySem.W.Frag} {h : Heap} {mg : Str → Option Value} (X : K.In h) (G : h.Ns mainGlobals mg) (c : He.SaysD fa fn K) : Has K mg "is_begun" "is_begun" s_is_begun := by
  obtain ⟨fd, F⟩ := c.def_ 18 (d := d_is_begun) rfl
  exact ⟨_, fd, He.glo_ok X G (c.fact 18 (f := .glo "is_begun") rfl), F⟩
theorem has_run_of {K : PySem.W.Frag} {h : Heap} {mg : Str → Option Value} (X : K.In h) (G : h.Ns mainGlobals mg) (c : He.SaysD fa fn K) : Has K mg "run_of" "run_of" s_run_of := by
  obtain ⟨fd, F⟩ := c.def_ 19 (d := d_run_of) rfl
  exact ⟨_, fd, He.glo_ok X G (c.fact 19 (f := .glo "run_of") rfl), F⟩
theorem has_begun_rows {K : PySem.W.Frag} {h : Heap} {mg : Str → Option Value} (X : K.In h) (G : h.Ns mainGlobals mg) (c : He.SaysD fa fn K) : Has K mg "begun_rows" "begun_rows" s_begun_rows := by
  obtain ⟨fd, F⟩ := c.def_ 20 (d := d_begun_rows) rfl
  exact ⟨_, fd, He.glo_ok X G (c.fact 20 (f := .glo "begun_rows") rfl), F⟩
theorem has_count_begun {K : PySem.W.Frag} {h : Heap} {mg : Str → Option Value} (X : K.In h) (G : h.Ns mainGlobals mg) (c : He.SaysD fa fn K) : Has K mg "count_begun" "count_begun" s_count_begun := by
  obtain ⟨fd, F⟩ := c.def_ 21 (d := d_count_begun) rfl
  exact ⟨_, fd, He.glo_ok X G (c.fact 21 (f := .glo "count_begun") rfl), F⟩
theorem has__law_dice {K : PySem.W.Frag} {h : Heap} {mg : Str → Option Value} (X : K.In h) (G : h.Ns mainGlobals mg) (c : He.SaysD fa fn K) : Has K mg "_law_dice" "_law_dice" s__law_dice := by
  obtain ⟨fd, F⟩ := c.def_ 22 (d := d__law_dice) rfl
  exact ⟨_, fd, He.glo_ok X G (c.fact 22 (f := .glo "_law_dice") rfl), F⟩
theorem has__law_roll {K : PySem.W.Frag} {h : Heap} {mg : Str → Option Value} (X : K.In h) (G : h.Ns mainGlobals mg) (c : He.SaysD fa fn K) : Has K mg "_law_roll" "_law_roll" s__law_roll := by
  obtain ⟨fd, F⟩ := c.def_ 23 (d := d__law_roll) rfl
  exact ⟨_, fd, He.glo_ok X G (c.fact 23 (f := .glo "_law_roll") rfl), F⟩
theorem has__law_pick {K : PySem.W.Frag} {h : Heap} {mg : Str → Option Value} (X : K.In h) (G : h.Ns mainGlobals mg) (c : He.SaysD fa fn K) : Has K mg "_law_pick" "_law_pick" s__law_pick := by
  obtain ⟨fd, F⟩ := c.def_ 24 (d := d__law_pick) rfl
  exact ⟨_, fd, He.glo_ok X G (c.fact 24 (f := .glo "_law_pick") rfl), F⟩
theorem has__law_ascending {K : PySem.W.Frag} {h : Heap} {mg : Str → Option Value} (X : K.In h) (G : h.Ns mainGlobals mg) (c : He.SaysD fa fn K) : Has K mg "_law_ascending" "_law_ascending" s__law_ascending := by
  obtain ⟨fd, F⟩ := c.def_ 25 (d := d__law_ascending) rfl
  exact ⟨_, fd, He.glo_ok X G (c.fact 25 (f := .glo "_law_ascending") rfl), F⟩
theorem has__law_is_integer {K : PySem.W.Frag} {h : Heap} {mg : Str → Option Value} (X : K.In h) (G : h.Ns mainGlobals mg) (c : He.SaysD fa fn K) : Has K mg "_law_is_integer" "_law_is_integer" s__law_is_integer := by
  obtain ⟨fd, F⟩ := c.def_ 26 (d := d__law_is_integer) rfl
  exact ⟨_, fd, He.glo_ok X G (c.fact 26 (f := .glo "_law_is_integer") rfl), F⟩
theorem has__law_rows {K : PySem.W.Frag} {h : Heap} {mg : Str → Option Value} (X : K.In h) (G : h.Ns mainGlobals mg) (c : He.SaysD fa fn K) : Has K mg "_law_rows" "_law_rows" s__law_rows := by
  obtain ⟨fd, F⟩ := c.def_ 27 (d := d__law_rows) rfl
  exact ⟨_, fd, He.glo_ok X G (c.fact 27 (f := .glo "_law_rows") rfl), F⟩
theorem has__law_is_row {K : PySem.W.Frag} {h : Heap} {mg : Str → Option Value} (X : K.In h) (G : h.Ns mainGlobals mg) (c : He.SaysD fa fn K) : Has K mg "_law_is_row" "_law_is_row" s__law_is_row := by
  obtain ⟨fd, F⟩ := c.def_ 28 (d := d__law_is_row) rfl
  exact ⟨_, fd, He.glo_ok X G (c.fact 28 (f := .glo "_law_is_row") rfl), F⟩
theorem has__law_row {K : PySem.W.Frag} {h : Heap} {mg : Str → Option Value} (X : K.In h) (G : h.Ns mainGlobals mg) (c : He.SaysD fa fn K) : Has K mg "_law_row" "_law_row" s__law_row := by
  obtain ⟨fd, F⟩ := c.def_ 29 (d := d__law_row) rfl
  exact ⟨_, fd, He.glo_ok X G (c.fact 29 (f := .glo "_law_row") rfl), F⟩
theorem has__law_boxes {K : PySem.W.Frag} {h : Heap} {mg : Str → Option Value} (X : K.In h) (G : h.Ns mainGlobals mg) (c : He.SaysD fa fn K) : Has K mg "_law_boxes" "_law_boxes" s__law_boxes := by
  obtain ⟨fd, F⟩ := c.def_ 30 (d := d__law_boxes) rfl
  exact ⟨_, fd, He.glo_ok X G (c.fact 30 (f := .glo "_law_boxes") rfl), F⟩
theorem has__law_step {K : PySem.W.Frag} {h : Heap} {mg : Str → Option Value} (X : K.In h) (G : h.Ns mainGlobals mg) (c : He.SaysD fa fn K) : Has K mg "_law_step" "_law_step" s__law_step := by
  obtain ⟨fd, F⟩ := c.def_ 31 (d := d__law_step) rfl
  exact ⟨_, fd, He.glo_ok X G (c.fact 31 (f := .glo "_law_step") rfl), F⟩
theorem has__law_weight {K : PySem.W.Frag} {h : Heap} {mg : Str → Option Value} (X : K.In h) (G : h.Ns mainGlobals mg) (c : He.SaysD fa fn K) : Has K mg "_law_weight" "_law_weight" s__law_weight := by
  obtain ⟨fd, F⟩ := c.def_ 32 (d := d__law_weight) rfl
  exact ⟨_, fd, He.glo_ok X G (c.fact 32 (f := .glo "_law_weight") rfl), F⟩
theorem has__law_right {K : PySem.W.Frag} {h : Heap} {mg : Str → Option Value} (X : K.In h) (G : h.Ns mainGlobals mg) (c : He.SaysD fa fn K) : Has K mg "_law_right" "_law_right" s__law_right := by
  obtain ⟨fd, F⟩ := c.def_ 33 (d := d__law_right) rfl
  exact ⟨_, fd, He.glo_ok X G (c.fact 33 (f := .glo "_law_right") rfl), F⟩
theorem has__law_all_right {K : PySem.W.Frag} {h : Heap} {mg : Str → Option Value} (X : K.In h) (G : h.Ns mainGlobals mg) (c : He.SaysD fa fn K) : Has K mg "_law_all_right" "_law_all_right" s__law_all_right := by
  obtain ⟨fd, F⟩ := c.def_ 34 (d := d__law_all_right) rfl
  exact ⟨_, fd, He.glo_ok X G (c.fact 34 (f := .glo "_law_all_right") rfl), F⟩
theorem has_law {K : PySem.W.Frag} {h : Heap} {mg : Str → Option Value} (X : K.In h) (G : h.Ns mainGlobals mg) (c : He.SaysD fa fn K) : Has K mg "law" "law" s_law := by
  obtain ⟨fd, F⟩ := c.def_ 35 (d := d_law) rfl
  exact ⟨_, fd, He.glo_ok X G (c.fact 35 (f := .glo "law") rfl), F⟩
theorem law_kp {P : Program} {w : World} {K : PySem.W.Frag} {h base : Heap} {mg : Str → Option Value} (X : K.In h) (G : h.Ns mainGlobals mg) (c : He.SaysD fa fn K) : Kp P w K mg base 8 "law" 1 F_law := by
  have B := blt X G c
  have k_is_whole := ok_is_whole (P := P) (w := w) (base := base) B (has_is_whole X G c)
  have k_is_near := ok_is_near (P := P) (w := w) (base := base) B (has_is_near X G c) k_is_whole
  have k_is_within := ok_is_within (P := P) (w := w) (base := base) B (has_is_within X G c) k_is_whole
  have k_require_number := ok_require_number (P := P) (w := w) (base := base) B (has_require_number X G c) k_is_near
  have k_is_falling := ok_is_falling (P := P) (w := w) (base := base) B (has_is_falling X G c)
  have k_is_part_row := ok_is_part_row (P := P) (w := w) (base := base) B (has_is_part_row X G c) k_is_within k_is_falling
  have k_is_row_in := ok_is_row_in (P := P) (w := w) (base := base) B (has_is_row_in X G c) k_is_part_row
  have k_rows_by := ok_rows_by (P := P) (w := w) (base := base) B (has_rows_by X G c)
  have k_require_row := ok_require_row (P := P) (w := w) (base := base) B (has_require_row X G c) k_is_row_in
  have k_stepped_in := ok_stepped_in (P := P) (w := w) (base := base) B (has_stepped_in X G c)
  have k_row_ahead := ok_row_ahead (P := P) (w := w) (base := base) B (has_row_ahead X G c)
  have k_ahead_in := ok_ahead_in (P := P) (w := w) (base := base) B (has_ahead_in X G c) k_row_ahead
  have k_is_begun_in := ok_is_begun_in (P := P) (w := w) (base := base) B (has_is_begun_in X G c)
  have k_run_in := ok_run_in (P := P) (w := w) (base := base) B (has_run_in X G c) k_stepped_in
  have k_require_size := ok_require_size (P := P) (w := w) (base := base) B (has_require_size X G c) k_require_number
  have k_stepped := ok_stepped (P := P) (w := w) (base := base) B (has_stepped X G c) k_require_row k_stepped_in
  have k_stepped_often := ok_stepped_often (P := P) (w := w) (base := base) B (has_stepped_often X G c) k_require_number k_require_row k_run_in
  have k_ahead_of := ok_ahead_of (P := P) (w := w) (base := base) B (has_ahead_of X G c) k_require_row k_ahead_in
  have k_is_begun := ok_is_begun (P := P) (w := w) (base := base) B (has_is_begun X G c) k_require_row k_is_begun_in
  have k_run_of := ok_run_of (P := P) (w := w) (base := base) B (has_run_of X G c) k_require_row k_run_in
  have k_begun_rows := ok_begun_rows (P := P) (w := w) (base := base) B (has_begun_rows X G c) k_rows_by k_is_begun_in k_require_size
  have k_count_begun := ok_count_begun (P := P) (w := w) (base := base) B (has_count_begun X G c) k_rows_by k_is_begun_in k_require_size
  have k__law_dice := ok__law_dice (P := P) (w := w) (base := base) B (has__law_dice X G c)
  have k__law_roll := ok__law_roll (P := P) (w := w) (base := base) B (has__law_roll X G c)
  have k__law_pick := ok__law_pick (P := P) (w := w) (base := base) B (has__law_pick X G c) k__law_roll
  have k__law_ascending := ok__law_ascending (P := P) (w := w) (base := base) B (has__law_ascending X G c)
  have k__law_is_integer := ok__law_is_integer (P := P) (w := w) (base := base) B (has__law_is_integer X G c)
  have k__law_rows := ok__law_rows (P := P) (w := w) (base := base) B (has__law_rows X G c)
  have k__law_is_row := ok__law_is_row (P := P) (w := w) (base := base) B (has__law_is_row X G c) k__law_is_integer
  have k__law_row := ok__law_row (P := P) (w := w) (base := base) B (has__law_row X G c) k__law_roll
  have k__law_boxes := ok__law_boxes (P := P) (w := w) (base := base) B (has__law_boxes X G c)
  have k__law_step := ok__law_step (P := P) (w := w) (base := base) B (has__law_step X G c)
  have k__law_weight := ok__law_weight (P := P) (w := w) (base := base) B (has__law_weight X G c) k__law_boxes
  have k__law_right := ok__law_right (P := P) (w := w) (base := base) B (has__law_right X G c) k_stepped k_stepped_often k_ahead_of k_is_begun k_run_of k__law_roll k__law_ascending k__law_is_row k__law_row k__law_step k__law_weight
  have k__law_all_right := ok__law_all_right (P := P) (w := w) (base := base) B (has__law_all_right X G c) k_ahead_of k_begun_rows k_count_begun k__law_roll k__law_pick k__law_rows k__law_step
  have k_law := ok_law (P := P) (w := w) (base := base) B (has_law X G c) k_stepped k_stepped_often k_ahead_of k_is_begun k_begun_rows k_count_begun k__law_dice k__law_right k__law_all_right
  exact k_law
end LW
open PySem PySem.W PySem.Calls PyProof.Rows
theorem PySem.Challenge.cw_hookwide_k83_whole_steps_and_rows_ahead_holds : PySem.Challenge.rw_hookwide_k83_whole_steps_and_rows_ahead.Holds := by
  w_on; o_law
  refine HandSHeadRun.head_any (r := OpenLaw.row PySem.Challenge.rw_hookwide_k83_whole_steps_and_rows_ahead) (q := view (OpenLaw.row PySem.Challenge.rw_hookwide_k83_whole_steps_and_rows_ahead).prog [46]) (H := LW.hk) (ob := LW.ob) (M := 3000) (loose := LW.loose) (d := HandSHeadRun.topDef (OpenLaw.row PySem.Challenge.rw_hookwide_k83_whole_steps_and_rows_ahead).prog 46) (kwd := []) LW.ob_eq
    (by kernel_rfl) (fun s => by kernel_rfl) LW.hd_run (by kernel_rfl) (by kernel_rfl) (by kernel_rfl) (by rfl) (by first | assumption | decide +kernel) (by decide +kernel) ⟨rfl, rfl, rfl, rfl, rfl, by decide +kernel⟩ ?hw ?hc
  case hw => w_witness2
  case hc =>
    refine DL.walkG (l := PySem.Challenge.rw_hookwide_k83_whole_steps_and_rows_ahead) (n := 63) (k := 8) rfl (by decide) (by kernel_rfl) ⟨rfl, by decide, by decide⟩ DL.callerA_g ?F
    intro w mg fa h Y G hmg0
    obtain ⟨K, KX, c⟩ := Y
    have hmg : mg ("law" : PySem.Str) = some (.ref fa) := by
      have e : (HandSHeadRun.topDef (OpenLaw.row PySem.Challenge.rw_hookwide_k83_whole_steps_and_rows_ahead).prog 46).name = ("law" : PySem.Str) := by kernel_rfl
      rw [← e]
      exact hmg0
    refine ⟨K, LW.F_law, KX, fun ns _ => LW.f_law ns, fun base _ _ => ?_⟩
    obtain ⟨f, e1, _, e3⟩ := LW.law_kp (P := (PySem.Challenge.rw_hookwide_k83_whole_steps_and_rows_ahead).prog) (w := w) (base := base) KX G c
    have e2 := hmg.symm.trans e1
    cases e2
    exact e3
