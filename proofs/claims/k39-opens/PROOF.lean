import PyProof.Rows.All
import Wide.All
import OpenK.AllK
import Wide.FinOn
import PyProof.SeqIndex
import PyProof.Draws
import PyProof.InstNe
import PyProof.StrOps2
import PyProof.Rows.SetFrom
import KE.GoesMore
import HandS.ForMost
import HandS.More
import HandS.Words
import HandS.Defaults
import HandS.TupAny
import HandS.TupMul
import HandS.IsInst
import HandS.Style
import HandS.Conv
import HandS.Strs
import HandS.Zip
import HandS.OwnEq
import HandS.WideBits
import HandS.Exc
import KE.KStateDown
import HandS.WordsExc
import HandS.Head0
import HandS.Head1
import HandS.Head2
import HandS.HeadEnd
import HandS.HeadHook1
import HandS.HeadHook2
import PySem.Challenge.RW_boughswap_k39_whole_opens_in_either_orde
import HandS.Iter
set_option Elab.async false
set_option linter.all false
set_option maxRecDepth 100000
set_option maxHeartbeats 4000000
/-! Rules over HandS that were lacking: tuples whose object is known (so that their methods can be called), enumerate of a tuple, a tuple times 0 or 1, a text times a number, len and != of an own class, len(set(texts)). -/
namespace L2
open PySem PySem.Spec PyProof.Rows
open AutoSeq1 (wpAny_loadPart')
/-- a tuple whose object is known and bears no dict -/
def TupF (H : Hp) (a : Addr) (xs : List V) : Prop := ∃ o : Obj, H a = some (.frz o (.tup xs)) ∧ o.dict = none
theorem TupF.sq {K : PySem.W.Frag} {H : Hp} {a : Addr} {xs : List V} (h : TupF H a xs) : SqT K H a xs := by
  obtain ⟨o, h, _⟩ := h
  exact .inl (.inr ⟨o, h⟩)
/-- what follows a new tuple -/
def NewT (xs : List V) (H : Hp) (Q : VK) : Prop := ∀ (p : Addr) (o : Obj), H p = none → o.dict = none → Q (.ref p) (upd H p (.frz o (.tup xs)))
section
variable {X : Cx} {pins : List (Addr × Obj)} {σ : L2.St} {H : Hp} {s : Shared} {Q : VK} {xs : List V} {its : List Value}
theorem Inv.laidT {t' : Nat} (I : Inv X pins σ H s) (r : Vals xs its) (z : xs.length ≤ sizeLine) (q : NewT xs H Q) :
    EP X pins σ Q (.ref s.heap.objs.size) { s with heap := s.heap.push { cls := .type "tuple", data := .seq its.toArray }, toks := t' } := by
  have e : (s.heap.push { cls := .type "tuple", data := .seq its.toArray }).get? s.heap.objs.size = some { cls := .type "tuple", data := .seq its.toArray } := Heap.get?_push_size _ rfl
  refine ⟨.ref s.heap.objs.size, _, I.laid (t' := t') (o := .frz { cls := .type "tuple", data := .seq its.toArray } (.tup xs)) (fun b u e => Heap.get?_push_of_some _ e) (Nat.le_refl _) ?_, rfl, q _ { cls := .type "tuple", data := .seq its.toArray } (I.hok.fresh (Nat.le_refl _)) rfl⟩
  exact ⟨e, z, its, r, _, e, rfl, _, rfl⟩
def tTupF (t : TA) : TE := fun σ H Q => t σ H fun xs H1 => xs.length ≤ sizeLine ∧ NewT xs H1 Q
theorem pe_tupF {es : List Expr} {t : TA} {pos : Pos} {x1} (h : PA X es t) : PE X (.Tuple es x1 pos) (tTupF t) := by
  refine ⟨fun pins s σ H Q I hq => ?_⟩
  refine wpAny_Tuple_spliced (thn (h.run pos pins s σ H _ I hq) fun us s1 ⟨xs, H1, I1, r, z, q⟩ => ⟨by rw [← r.length]; exact z, ?_⟩)
  exact I1.laidT (t' := s1.toks) r z q
/-- t + u -/
def rCatF (K : PySem.W.Frag) : R2 := fun x y H Q => ∃ a b xs ys, x = .ref a ∧ y = .ref b ∧ SqT K H a xs ∧ SqT K H b ys ∧ xs.length + ys.length ≤ sizeLine ∧
  (xs = [] → Q (.ref b) H) ∧ (xs ≠ [] → ys = [] → Q (.ref a) H) ∧ (xs ≠ [] → ys ≠ [] → NewT (xs ++ ys) H Q)
theorem op_catF : OpR X (binaryOp .Add) (rCatF X.K) := by
  intro pins s σ H x y v u Q I rx ry h
  obtain ⟨a, b, xs, ys, rfl, rfl, ha, hb, hz, q0, q1, q2⟩ := h
  by_cases hx : xs = []
  · subst hx
    exact op_catA pins s σ H _ _ v u Q I rx ry ⟨a, b, [], ys, rfl, rfl, ha, hb, hz, q0, fun z => absurd rfl z, fun z => absurd rfl z⟩
  · cases rx
    cases ry
    obtain ⟨its, r1, p1, _⟩ := I.tuple ha
    obtain ⟨its2, r2, p2, _⟩ := I.tuple hb
    refine HT.cat_tup p1 p2 (fun z => hx (r1.nil_iff.mp z)) (fun z => ⟨.ref a, H, I, rfl, q1 hx (r2.nil_iff.mp z)⟩) (fun z => ?_) (by rw [← r1.length, ← r2.length]; exact hz)
    exact I.laidT (t' := s.toks) (r1.append r2) (by rw [List.length_append]; exact hz) (q2 hx fun w => z (r2.nil_iff.mpr w))
/-- t[lo:hi] -/
def rSlF (K : PySem.W.Frag) : V → Option Int → Option Int → Hp → VK → Prop := fun x lo hi H Q => ∃ a xs, x = .ref a ∧ SqT K H a xs ∧
  (HT.sIx xs.length 0 lo = 0 ∧ HT.sIx xs.length xs.length hi = xs.length → Q (.ref a) H) ∧ (¬ (HT.sIx xs.length 0 lo = 0 ∧ HT.sIx xs.length xs.length hi = xs.length) → NewT (cutV xs lo hi) H Q)
theorem sl_tupF : SlR X (rSlF X.K) := by
  intro pins s σ H x v vl vu lo hi sl Q I rx hs pl pu h
  obtain ⟨a, xs, rfl, hx, q1, q2⟩ := h
  by_cases hw : HT.sIx xs.length 0 lo = 0 ∧ HT.sIx xs.length xs.length hi = xs.length
  · exact sl_tupA pins s σ H _ v vl vu lo hi sl Q I rx hs pl pu ⟨a, xs, rfl, hx, q1, fun z => absurd hw z⟩
  · cases rx
    obtain ⟨its, r, ht, hz⟩ := I.tuple hx
    have hlen : its.toArray.size = xs.length := by rw [List.size_toArray]; exact r.length.symm
    refine ⟨"tuple", _, PyProof.Rows.slot_tuple_getitem.lookup, ht.typeIs, ?_⟩
    refine HT.getItem_tuple_cut ht hs pl pu (by rw [hlen]; exact hw) ?_ (by rw [hlen]; exact hz)
    rw [hlen]
    exact I.laidT (t' := s.toks) ((r.drop (HT.sIx xs.length 0 lo)).take (HT.sIx xs.length xs.length hi - HT.sIx xs.length 0 lo)) (Nat.le_trans (cutV_length xs lo hi) hz) (q2 hw)
/-- tuple(list) -/
theorem call_tupleF : CallR X (.type "tuple") (fun xs H Q => ∃ p ys, xs = [.ref p] ∧ SqL X.K H p ys ∧ NewT ys H Q) := by
  intro pins s σ H xs us Q I r h
  obtain ⟨p, ys, rfl, hq, q⟩ := h
  obtain ⟨u, rfl, rx⟩ := vals1 r
  cases rx
  obtain ⟨its, r', pl, hz⟩ := I.list hq
  have hlen := r'.length
  refine call_tuple_list pl.isList (fun h' kp => ?_) (by simp only [List.size_toArray] <;> omega)
  have I1 : Inv X pins σ H { s with heap := h' } := I.kept (t' := s.toks) kp
  exact I1.laidT (t' := s.toks) r' hz q
/-- tuple * k -/
theorem tuple_mul1 (l : Addr) (items : Array Value) (n : Nat) (dd : Option Addr) (sl : Array (Option Value)) (u : Tok) :
    Meets (Builtin.«tuple.__mul__» ⟨[.ref l, .int 1 u], []⟩) (fun _ R s => s.heap.get? l = some { cls := .type "tuple", dict := dd, data := .seq items n, slots := sl } ∧ R (.ok (.ret (Value.ref l))) s) :=
  .of_wp fun prog w A R s h => by
    obtain ⟨hp, g, d, tk, os⟩ := s
    obtain ⟨hl, h⟩ := h
    have f1 := AutoSeq1.idx_int
    have hT : Shared.TypeIs (⟨hp, g, d, tk, os⟩ : Shared) (.ref l) "tuple" := ⟨_, hl, rfl⟩
    wp_walk using wpAny_loadPart' hl
    exact ⟨_, rfl, h⟩
theorem tuple_mul0 (l : Addr) (items : Array Value) (n : Nat) (dd : Option Addr) (sl : Array (Option Value)) (x : Int) (u : Tok) (c0 : (decide (x < -(2 ^ 63)) || decide (x ≥ 2 ^ 63)) = false) (c1 : (items.isEmpty || x == 1) = false) (c2 : (decide (x ≤ 0) || items.isEmpty) = true) :
    Meets (Builtin.«tuple.__mul__» ⟨[.ref l, .int x u], []⟩) (fun _ R s => s.heap.get? l = some { cls := .type "tuple", dict := dd, data := .seq items n, slots := sl } ∧
      R (.ok (.ret (Value.ref s.heap.objs.size))) { s with heap := s.heap.push { cls := Value.type "tuple", data := Data.seq #[] }, toks := s.toks }) :=
  .of_wp fun prog w A R s h => by
    obtain ⟨hp, g, d, tk, os⟩ := s
    obtain ⟨hl, h⟩ := h
    have f1 := AutoSeq1.idx_int
    wp_walk using wpAny_loadPart' hl
    repeat (first
      | (refine wpAny_ite_false (decide_eq_false (by rw [c0]; exact Bool.false_ne_true)) ?_; wp_walk using wpAny_loadPart' hl)
      | (refine wpAny_ite_false (decide_eq_false (by rw [c1]; exact Bool.false_ne_true)) ?_; wp_walk using wpAny_loadPart' hl)
      | (refine wpAny_ite_true (decide_eq_true c2) ?_; wp_walk using wpAny_loadPart' hl))
    exact ⟨_, rfl, h⟩
def rRepF (K : PySem.W.Frag) : R2 := fun x y H Q => ∃ l k xs, x = .ref l ∧ y = .int k ∧ SqT K H l xs ∧ xs ≠ [] ∧ 0 ≤ k ∧ k ≤ 1000 ∧ xs.length ≤ 1000 ∧ (k = 1 → Q (.ref l) H) ∧ (k ≠ 1 → NewT (List.replicate k.toNat xs).flatten H Q)
theorem op_repF : OpR X (binaryOp .Mult) (rRepF X.K) := by
  intro pins s σ H x y v u Q I rx ry h
  obtain ⟨l, k, xs, rfl, rfl, hT, hne, h0, h1, hz, q1, q2⟩ := h
  cases rx
  obtain ⟨t, rfl⟩ := ry
  obtain ⟨its, r, ⟨⟨cls, dd, data, sl⟩, ho, hc, n, hd⟩, hs⟩ := I.tuple hT
  cases hc
  cases hd
  have hle : its.length = xs.length := r.length.symm
  have hi : its.toArray.isEmpty = false := by
    cases its with
    | nil => exact absurd (List.eq_nil_of_length_eq_zero hle.symm) hne
    | cons a b => rfl
  refine wpAny_binaryOp_repeat_ref (T := "tuple") (U := "int") (by decide) ⟨_, ho, rfl⟩ (fun s' => typeIs_int s' k t) noFill_tuple_mul F.fills_int_mul F.slot_int_rmul repeat_tuple F.slot_int_index.lookup
    (call_meets F.slot_int_rmul (typeIs_int s k t) F.entry_int_rmul (F.args_int_rmul_2 _ _) (int_rmul_tuple k t l its.toArray n dd sl) ⟨ho, rfl, ⟨_, ho, rfl⟩, ?_⟩)
  have c0 : (decide (k < -(2 ^ 63)) || decide (k ≥ 2 ^ 63)) = false := by
    rw [Bool.or_eq_false_iff]
    exact ⟨decide_eq_false (by omega), decide_eq_false (by omega)⟩
  by_cases e1 : k = 1
  · subst e1
    exact call_meets F.slot_tuple_mul ⟨_, ho, rfl⟩ F.entry_tuple_mul (F.args_tuple_mul_2 _ _) (tuple_mul1 l its.toArray n dd sl t) ⟨ho, ⟨.ref l, H, I, rfl, q1 rfl⟩⟩
  · have c1 : (its.toArray.isEmpty || k == 1) = false := by
      rw [hi, Bool.false_or]
      exact beq_eq_false_iff_ne.mpr e1
    have fl : (List.replicate k.toNat its).flatten.length ≤ sizeLine := by
      rw [PyProof.Rows.lm_len_rep_flat, hle, sizeLine_eq]
      have a1 : k.toNat * xs.length ≤ 1000 * 1000 := Nat.mul_le_mul (by omega) hz
      omega
    have fx : (List.replicate k.toNat xs).flatten.length ≤ sizeLine := by
      rw [PyProof.Rows.lm_len_rep_flat, ← hle, ← PyProof.Rows.lm_len_rep_flat]
      exact fl
    by_cases e0 : k = 0
    · subst e0
      exact call_meets F.slot_tuple_mul ⟨_, ho, rfl⟩ F.entry_tuple_mul (F.args_tuple_mul_2 _ _) (tuple_mul0 l its.toArray n dd sl 0 t c0 c1 (by rfl)) ⟨ho, I.laidT (t' := s.toks) (xs := []) (its := []) .nil (Nat.zero_le _) (q2 e1)⟩
    · have c2 : (decide (k ≤ 0) || its.toArray.isEmpty) = false := by
        rw [hi, Bool.or_false]
        exact decide_eq_false (by omega)
      have hm : ((its.toArray.size : Nat) : Int) * k ≤ 1000000 := by
        have hs0 : ((its.toArray.size : Nat) : Int) ≤ 1000 := by rw [List.size_toArray, hle]; omega
        have a1 : ((its.toArray.size : Nat) : Int) * k ≤ 1000 * k := Int.mul_le_mul_of_nonneg_right hs0 (by omega)
        omega
      have c4 : Builtin.Tuple.tupleTooMany (((its.toArray.size : Nat) : Int) * k) = false := decide_eq_false (by rw [sizeLine_eq]; omega)
      refine call_meets F.slot_tuple_mul ⟨_, ho, rfl⟩ F.entry_tuple_mul (F.args_tuple_mul_2 _ _) (tuple_mulW l its.toArray n dd sl k t c0 c1 c2 (by omega) c4 (by rw [size_rep, List.size_toArray]; exact fl)) ⟨ho, ?_⟩
      rw [size_rep]
      exact I.laidT (t' := s.toks) (r.rep k.toNat) fx (q2 e1)

/-! ### the methods of such a tuple -/
def tBMT (r : V → List V → Hp → VK → Prop) (to : TE) (t : TA) : TE := fun σ H Q => to σ H fun x H1 => (∃ a ys, x = .ref a ∧ TupF H1 a ys) ∧ t σ H1 fun xs H2 => r x xs H2 Q
theorem pe_bmT {o e : Expr} {es : List Expr} {to : TE} {t : TA} {name : Str} {apos cpos : Pos} {id : String} {r : V → List V → Hp → VK → Prop} (pa : PlainAttrs "tuple") (slot : Slot "tuple" name id) (hty : typeOf (.builtin id) = pure (.type "method_descriptor"))
    (hm : MtR X id r) (ho : PE X o to) (ha : PA X (e :: es) t) (hbase : attributeBase o name X.env (eval o X.env) = eval o X.env := by rfl)
    (hfew : ((backTo cpos (starEach (e :: es) X.env)).all (fun x => !x.1) && (backToKw cpos (keywordEach [] X.env)).all (fun x => x.1.isSome)
      && decide ((e :: es).length + ([] : List Keyword).length + (if ([] : List Keyword).isEmpty then 0 else 1) < 30)) = true := by rfl)
    (hline : (apos.endLine == cpos.line) = true := by rfl) (hs : starEach (e :: es) X.env = (false, eval e X.env) :: starEach es X.env := by rfl) (hplain : (backTo cpos (starEach es X.env)).any (·.1) = false := by rfl) :
    PE X (.Call (.Attribute o name apos) (e :: es) [] cpos) (tBMT r to t) := by
  refine ⟨fun pins s σ H Q I h => wpAny_Call_method_late hbase hfew hline rfl (thn (ho.run pins s σ H _ I h) fun v s1 ⟨x, H1, I1, r1, ⟨a, ys, ex, ob, hf, hd⟩, q1⟩ => ?_)⟩
  subst ex
  cases r1
  obtain ⟨hob, _, its, _, o2, ho2, hc2, _⟩ := (show ObjOk X.prog X.w H1 s1.heap a (.frz ob (.tup ys)) from I1.hok a _ hf)
  refine ⟨"tuple", id, pa, slot, hty, ⟨o2, ho2, hc2⟩, fun b e => ?_, ?_⟩
  · cases e
    exact ⟨ob, hob, hd⟩
  · have hA := ha.run cpos pins s1 σ H1 _ I1 q1
    rw [hs] at hA ⊢
    refine Calls.callWith_builtin ?_ (Calls.evalArgs_plain (thn hA fun us s2 ⟨vs, H2, I2, r2, q2⟩ => hm pins s2 σ H2 (.ref a) vs _ us Q I2 rfl r2 q2))
    show (false || (backTo cpos (starEach es X.env)).any (·.1)) = false
    rw [hplain]
    rfl
/-- the item at a place is equal to a plain value or not -/
theorem eq_items {A : Around} {s : Shared} {y : V} {u : Value} (ry : RelV y u) (fy : flatV y = true) {ys : List V} {its : List Value} (r : Vals ys its) (f : ys.all flatV = true) (j : Nat) (hj : j < its.toArray.size) :
    SeqAt.EqAt A s its.toArray[j] u (match ys[j]? with | some z => eqV z y | none => false) := by
  have hj2 : j < its.length := by simpa using hj
  have hj3 : j < ys.length := by rw [r.length]; exact hj2
  obtain ⟨w, hw, rw⟩ := r.get (i := j) (x := ys[j]) (List.getElem?_eq_getElem hj3)
  have e : its.toArray[j] = w := by
    have := (List.getElem?_eq_some_iff.mp hw).2
    simpa using this
  rw [e, List.getElem?_eq_getElem hj3]
  exact eqAt_V rw ry (List.all_eq_true.mp f _ (List.getElem_mem hj3)) fy
def rTIdx (K : PySem.W.Frag) : V → List V → Hp → VK → Prop := fun x xs H Q => ∃ (a : Addr) (ys : List V) (y : V) (j : Nat) (z : V), x = .ref a ∧ xs = [y] ∧ SqT K H a ys ∧ flatV y = true ∧ ys.all flatV = true ∧ ys[j]? = some z ∧ eqV z y = true ∧
  (∀ (m : Nat) (z' : V), m < j → ys[m]? = some z' → eqV z' y = false) ∧ Q (.int (j : Nat)) H
theorem mt_tidx : MtR X "tuple.index" (rTIdx X.K) := by
  intro pins s σ H x xs v us Q I rx rxs h
  obtain ⟨a, ys, y, j, z, rfl, rfl, hs, fy, fys, hz, hzj, hno, q⟩ := h
  cases rx
  obtain ⟨u, rfl, ru⟩ := vals1 rxs
  obtain ⟨its, r, ⟨⟨cls, dd, dt, sl⟩, ho, hc, n, hd⟩, _⟩ := I.tuple hs
  cases hc
  cases hd
  have hj : j < its.toArray.size := by rw [List.size_toArray, ← r.length]; exact (List.getElem?_eq_some_iff.mp hz).1
  refine call_meets PySem.F.slot_tuple_index ⟨_, ho, rfl⟩ PySem.F.entry_tuple_index (PySem.F.args_tuple_index_2 _ _)
    (PySem.SeqAt.tuple_index2_found a its.toArray n dd sl u (fun i => match ys[i]? with | some z => eqV z y | none => false) j hj (Nat.zero_le _) hj ?_ fun m hm _ hmj => ?_)
    ⟨ho, fun i hi => eq_items ru fy r fys i hi, ⟨.int (j : Nat), H, I.tok _, ⟨_, rfl⟩, q⟩⟩
  · simp only [hz]; exact hzj
  · have hm2 : m < ys.length := by rw [r.length]; simpa using hm
    simp only [List.getElem?_eq_getElem hm2]
    exact hno m _ hmj (List.getElem?_eq_getElem hm2)
def rTIdx2 (K : PySem.W.Frag) : V → List V → Hp → VK → Prop := fun x xs H Q => ∃ (a : Addr) (ys : List V) (y : V) (i : Int) (j : Nat) (z : V), x = .ref a ∧ xs = [y, .int i] ∧ SqT K H a ys ∧ flatV y = true ∧ ys.all flatV = true ∧ 0 ≤ i ∧ i.toNat ≤ j ∧ ys[j]? = some z ∧ eqV z y = true ∧
  (∀ (m : Nat) (z' : V), i.toNat ≤ m → m < j → ys[m]? = some z' → eqV z' y = false) ∧ Q (.int (j : Nat)) H
theorem mt_tidx2 : MtR X "tuple.index" (rTIdx2 X.K) := by
  intro pins s σ H x xs v us Q I rx rxs h
  obtain ⟨a, ys, y, i, j, z, rfl, rfl, hs, fy, fys, h0, hij, hz, hzj, hno, q⟩ := h
  cases rx
  obtain ⟨u, w, rfl, ru, ⟨tk, rfl⟩⟩ := vals2 rxs
  obtain ⟨its, r, ⟨⟨cls, dd, dt, sl⟩, ho, hc, n, hd⟩, _⟩ := I.tuple hs
  cases hc
  cases hd
  have hj : j < its.toArray.size := by rw [List.size_toArray, ← r.length]; exact (List.getElem?_eq_some_iff.mp hz).1
  refine call_meets PySem.F.slot_tuple_index ⟨_, ho, rfl⟩ PySem.F.entry_tuple_index (PySem.F.args_tuple_index_3 _ _ _)
    (PySem.SeqAt.tuple_index3_found a its.toArray n dd sl u (fun i => match ys[i]? with | some z => eqV z y | none => false) i tk j hj (by rw [PySem.SeqAt.searchFrom_nonneg h0]; exact hij) hj ?_ fun m hm hlo hmj => ?_)
    ⟨ho, fun i hi => eq_items ru fy r fys i hi, ⟨.int (j : Nat), H, I.tok _, ⟨_, rfl⟩, q⟩⟩
  · simp only [hz]; exact hzj
  · have hm2 : m < ys.length := by rw [r.length]; simpa using hm
    simp only [List.getElem?_eq_getElem hm2]
    exact hno m _ (by rw [PySem.SeqAt.searchFrom_nonneg h0] at hlo; exact hlo) hmj (List.getElem?_eq_getElem hm2)
def rTCnt (K : PySem.W.Frag) : V → List V → Hp → VK → Prop := fun x xs H Q => ∃ (a : Addr) (ys : List V) (y : V), x = .ref a ∧ xs = [y] ∧ SqT K H a ys ∧ flatV y = true ∧ ys.all flatV = true ∧ Q (.int (ys.countP fun z => eqV z y : Nat)) H
theorem count_eq {y : V} : ∀ {ys : List V} {its : List Value}, Vals ys its → ys.all flatV = true → its.countP (eqU y) = ys.countP fun z => eqV z y
  | _, _, .nil, _ => rfl
  | z :: zs, u :: us, .cons r t, f => by
    rw [List.all_cons, Bool.and_eq_true] at f
    rw [List.countP_cons, List.countP_cons, count_eq t f.2, eqU_of r f.1]
theorem mt_tcount : MtR X "tuple.count" (rTCnt X.K) := by
  intro pins s σ H x xs v us Q I rx rxs h
  obtain ⟨a, ys, y, rfl, rfl, hs, fy, fys, q⟩ := h
  cases rx
  obtain ⟨u, rfl, ru⟩ := vals1 rxs
  obtain ⟨its, r, ⟨⟨cls, dd, dt, sl⟩, ho, hc, n, hd⟩, _⟩ := I.tuple hs
  cases hc
  cases hd
  refine call_meets PySem.F.slot_tuple_count ⟨_, ho, rfl⟩ PySem.F.entry_tuple_count (PySem.F.args_tuple_count_2 _ _) (SeqAt.tuple_countAt a its.toArray n dd sl u (eqU y))
    ⟨ho, fun w hw => mem_eqAt ru fy r fys w (by simpa using hw), ⟨.int (ys.countP fun z => eqV z y : Nat), H, I.tok _, ⟨s.toks, by rw [← count_eq r fys]⟩, q⟩⟩
end
end L2

set_option maxHeartbeats 4000000
/-! enumerate of a tuple. -/
namespace L2
open PySem PySem.Spec PyProof.Rows
open AutoSeq1 (wpAny_loadPart')
theorem enum_newT (l : Addr) (items : Array Value) (n : Nat) (dd : Option Addr) (sl : Array (Option Value)) :
    Meets (Builtin.«enumerate.__new__» ⟨[.type "enumerate", .ref l], []⟩) (fun _ R s => s.heap.get? l = some { cls := .type "tuple", dict := dd, data := .seq items n, slots := sl } ∧
      ∀ h1, h1 = s.heap.push { cls := .type "tuple_iterator", data := .fields #[.ref l, .int 0 0] } →
        R (.ok (.ret (.ref h1.objs.size))) { s with heap := h1.push { cls := .type "enumerate", data := .fields #[.none, .bool false, .ref s.heap.objs.size, rawInt 0, .none, .none] } }) :=
  .of_wp fun prog w A R s h => by
    obtain ⟨hp, g, d, tk, os⟩ := s
    obtain ⟨hl, h⟩ := h
    have fin := h _ rfl
    have hsub := sub_enumerate
    have hT : Heap.IsTuple (Shared.heap ⟨hp, g, d, tk, os⟩) l items := ⟨_, hl, rfl, n, rfl⟩
    wp_walk using wpAny_loadPart' hl
    refine wpAny_stack_any fun st => wpAny_pure ?_
    split
    · rename_i c _ _ _ _ _
      cases (c == Value.type "enumerate") <;> (wp_walk using wpAny_loadPart' hl, wpAny_pyIter_tuple hT; exact ⟨_, rfl, fin⟩)
    · wp_walk using wpAny_loadPart' hl, wpAny_pyIter_tuple hT
      exact ⟨_, rfl, fin⟩
section
variable {prog : Program} {w : World} {A : Around} {E : Value → Shared → Prop} {s : Shared}
theorem call_enumT {l : Addr} {items : Array Value} {Q : Value → Shared → Prop} (hT : IsTup s.heap l items)
    (h : ∀ h', IsEnum h' (s.heap.objs.size + 1) s.heap.objs.size 0 .none → h'.IsTupleIter s.heap.objs.size l 0 → (∀ b o, s.heap.get? b = some o → h'.get? b = some o) → Q (.ref (s.heap.objs.size + 1)) { s with heap := h' }) :
    wpAny (model prog w) A (call (.type "enumerate") [.ref l]) Q E s := by
  obtain ⟨⟨cls, dd, dt, sl⟩, ho, hc, n, hd⟩ := hT
  cases hc
  cases hd
  refine callType_new F.called_enumerate (by decide) (F.typeCall_enumerate_1 _) (F.newCall_enumerate_1 _) (fun obj => F.args_object_init_2 obj _) F.entry_enumerate_new (enum_newT l items n dd sl) ⟨ho, fun h1 e1 => ?_⟩
  have z : h1.objs.size = s.heap.objs.size + 1 := by rw [e1]; exact Heap.size_push ..
  rw [z]
  have e : IsEnum (h1.push { cls := .type "enumerate", data := .fields #[.none, .bool false, .ref s.heap.objs.size, rawInt 0, .none, .none] }) (s.heap.objs.size + 1) s.heap.objs.size 0 .none := by
    rw [← z]
    exact Heap.get?_push_size h1 rfl
  show _ ∧ _
  refine ⟨⟨_, e, rfl⟩, h _ e ?_ fun b o q => Heap.get?_push_of_some _ (by rw [e1]; exact Heap.get?_push_of_some _ q)⟩
  exact ⟨_, Heap.get?_push_of_some _ (by rw [e1]; exact Heap.get?_push_size _ rfl), rfl, rfl⟩
end
/-- the tuple at a, each item in a new pair with its number -/
def IteT (K : PySem.W.Frag) (a : Addr) : It :=
  ⟨fun i H => ∃ (xs : List V) (x : V), SqT K H a xs ∧ xs[i]? = some x, fun i H v H' => ∃ T x, v = .ref T ∧ H T = none ∧ H' = upd H T (.tup [.int (i : Nat), x]) ∧ ∀ xs, SqT K H a xs → xs[i]? = some x, fun i H => ∃ xs : List V, SqT K H a xs ∧ xs.length = i⟩
theorem turn_enumT {P : Program} {w : World} {K : PySem.W.Frag} {elts : List Expr} {kk : Nat} {tpos : Pos} (a e it : Addr) (ne : e ≠ it) (nae : a ≠ e) (nai : a ≠ it) :
    Turn P w K (.Tuple elts kk tpos) (IteT K a) [e, it] e (fun i h => (∃ old, IsEnum h e it ((i : Nat) : Int) old) ∧ h.IsTupleIter it a i) where
  mem := List.mem_cons_self ..
  obj := fun i h st b hb => by
    obtain ⟨⟨old, he⟩, o, ho, hc, hd⟩ := st
    rcases List.mem_cons.mp hb with q | q
    · subst q
      exact ⟨_, he, by intro v z; cases z⟩
    · exact ⟨o, by rw [List.mem_singleton.mp q]; exact ho, fun v z => by rw [hd] at z; cases z⟩
  keep := fun i h h' ⟨⟨old, he⟩, hi⟩ k => ⟨⟨old, k e (List.mem_cons_self ..) _ he⟩, hi.at fun o q => k it (List.mem_cons_of_mem _ (List.mem_cons_self ..)) o q⟩
  item := by
    intro X hP hw hK hc i pins s σ H E I hf ⟨⟨old, he⟩, hit⟩ ⟨xs, x, hq, hx⟩
    subst hP hw hK
    obtain ⟨its, rv, p, hz⟩ := I.tuple hq
    obtain ⟨u, hu, ru⟩ := rv.get hx
    have hel : e < s.heap.objs.size := Heap.lt_size he
    have hil : it < s.heap.objs.size := let ⟨_, q, _⟩ := hit; Heap.lt_size q
    have hi : i < its.toArray.size := by simpa using (List.getElem?_eq_some_iff.mp hu).1
    have inl : ∀ b, b ∈ [e, it] → b < s.heap.objs.size := fun b hb => by
      rcases List.mem_cons.mp hb with q | q
      · rw [q]; exact hel
      · rw [List.mem_singleton.mp q]; exact hil
    have D := PySem.Draws.tuple (prog := X.prog) (w := X.w) (A := X.A.in1) (by simpa using I.ok.hd hc) it a nai its.toArray
    refine wpAny_pyNext_enum_itemD D he ⟨hit, p⟩ hi ne (by simp [ne, Ne.symm nae]) fun y h' tk hy ho hit' hT hsz hk => ?_
    have ey : y = u := by
      have h1 : its[i]? = some y := by simpa using hy
      rw [hu] at h1
      exact (Option.some.inj h1).symm
    subst ey
    refine ⟨_, rfl, wpAny_letOwnedTupleGo_enum (s := { s with heap := h', toks := tk + 1 }) ho fun h'' he' sb => ?_⟩
    have hT2 : h''.get? s.heap.objs.size = some { cls := .type "tuple", data := .seq #[.int i tk, y] } := (sb.2 _ (Nat.ne_of_gt hel)).trans hT
    have new : ObjOk X.prog X.w (upd H s.heap.objs.size (.tup [.int (i : Nat), x])) h'' s.heap.objs.size (.tup [.int (i : Nat), x]) :=
      ⟨by show 2 ≤ sizeLine; decide, [.int i tk, y], .cons ⟨_, rfl⟩ (.cons ru .nil), _, hT2, rfl, _, rfl⟩
    have I1 : Inv X pins σ (upd H s.heap.objs.size (.tup [.int (i : Nat), x])) { s with heap := h'', toks := tk + 1 } :=
      I.turnedNew (ch := [e, it]) (fun b o hb q => by
        have n1 : b ≠ e := fun z => hb (by rw [z]; exact List.mem_cons_self ..)
        have n2 : b ≠ it := fun z => hb (by rw [z]; exact List.mem_cons_of_mem _ (List.mem_cons_self ..))
        exact (sb.2 b n1).trans (hk b o n1 n2 q)) hf (Nat.le_refl _) new
    refine ⟨.ref s.heap.objs.size, _, I1, rfl, ⟨_, x, rfl, I.hok.fresh (Nat.le_refl _), rfl, fun ys hy => by rw [I.tuple_inj hy hq]; exact hx⟩, ⟨⟨y, ?_⟩, hit'.1.at fun o q => (sb.2 it (Ne.symm ne)).trans q⟩, fun b hb => ?_⟩
    · rw [show ((i + 1 : Nat) : Int) = (i : Int) + 1 by omega]
      exact he'
    · rw [upd_ne (Nat.ne_of_lt (inl b hb))]
      exact (hf b hb).1
  done := by
    intro X hP hw hK hc i pins s σ H E I hf ⟨⟨old, he⟩, hit⟩ ⟨xs, hq, hx⟩
    subst hP hw hK
    obtain ⟨its, rv, p, hz⟩ := I.tuple hq
    obtain ⟨f0, f1, f2, f3, f4, f5⟩ := hf it (List.mem_cons_of_mem _ (List.mem_cons_self ..))
    have D := PySem.Draws.tuple (prog := X.prog) (w := X.w) (A := X.A.in1) (by simpa using I.ok.hd hc) it a nai its.toArray
    have hi : i = its.toArray.size := by rw [List.size_toArray, ← rv.length]; exact hx.symm
    exact wpAny_pyNext_enum_endD D he (show _ ∧ _ from ⟨by rw [← hi]; exact hit, p⟩) fun h' eb => ⟨rfl, I.turned (t' := s.toks) (fun b o hb q => eb b o hb q) f0 f1 f3 f4 f5⟩
  self := fun A i s Q E st h => let ⟨⟨_, he⟩, _⟩ := st; wpAny_pyIter_enum he h
def iEnumT (K : PySem.W.Frag) (ta : TA) : TI := fun σ H R => ta σ H fun vs H1 => ∃ a xs, vs = [.ref a] ∧ SqT K H1 a xs ∧ R (IteT K a) H1
theorem pi_enumT {X : Cx} {e : Expr} {ta : TA} {p pos tpos : Pos} {elts : List Expr} {kk : Nat} (hg : Gl X "enumerate") (hm : X.mg "enumerate" = none) (ha : PA X [e] ta) (hs : starEach [e] X.env = [(false, eval e X.env)] := by rfl) :
    PI X (.Tuple elts kk tpos) (.Call (.Name "enumerate" p) [e] [] pos) (iEnumT X.K ta) := by
  refine ⟨fun pins s σ H R I h => Call_ (ld_blt I hg hm boot_enumerate (PyProof.Rows.callWith_type1 (thn (ha.run pos pins s σ H _ I h) fun us s1 ⟨vs, H1, I1, r1, a, xs, ex, hq, q⟩ => ?_) hs rfl))⟩
  subst ex
  obtain ⟨u, rfl, ru⟩ := vals1 r1
  cases ru
  obtain ⟨its, rv, p', hz⟩ := I1.tuple hq
  have hal : a < s1.heap.objs.size := let ⟨_, q, _⟩ := p'; Heap.lt_size q
  refine call_enumT p' fun h' he hit hk => wpAny_pyIter_enum he ?_
  refine ⟨s1.heap.objs.size + 1, [s1.heap.objs.size + 1, s1.heap.objs.size], _, _, H1, rfl, I1.kept (t' := s1.toks) hk, turn_enumT a (s1.heap.objs.size + 1) s1.heap.objs.size (Nat.succ_ne_self _) (Nat.ne_of_lt (Nat.lt_succ_of_lt hal)) (Nat.ne_of_lt hal), ⟨⟨.none, he⟩, hit⟩, fun b hb => ?_, q⟩
  have hle : s1.heap.objs.size ≤ b := by
    rcases List.mem_cons.mp hb with z | z
    · rw [z]; exact Nat.le_add_right _ _
    · rw [List.mem_singleton.mp z]; exact Nat.le_refl _
  exact I1.fpOk hle (I1.hok.fresh hle)
end L2

set_option maxHeartbeats 4000000
/-! len and != of an own class, len(set(texts)), a text times a number. -/
namespace L2
open PySem PySem.Spec PyProof.Rows
section
variable {X : Cx} {k : Nat} {f C : Addr} {fd : FuncData} {ps : List Str} {sp : Sp}
/-- a method called below a built-in -/
theorem run_in1 {pins : List (Addr × Obj)} {σ : L2.St} {H : Hp} {s : Shared} {Q : VK} {us : List Value} {vs : List V} (F : FnOk X.prog X.w X.K X.mg X.base CX0 k f fd ps sp) (hr : Room (k + 1) X.A) (hb : Binds X.K fd ps [])
    (I : Inv X pins σ H s) (r : Vals vs us) (h : sp vs H Q E0) {A : Around} (hA : A = X.A.in1) : wpAny (model X.prog X.w) A (call (.ref f) us) (EP X pins σ Q) X.xe s := by
  subst hA
  have hl : us.length = ps.length := by rw [← r.length]; exact F.len _ _ _ _ h
  have b := hb s us I.kIn (by rw [List.append_nil]; exact hl)
  rw [List.append_nil] at b
  refine wpAny_call (codeAny_mono (F.run X.A.in1 X.stack s H ⟨us, []⟩ us vs Q E0 hr.in1 I.env0.in1 b r h) fun z s' hq => ?_)
  cases z with
  | error e => exact False.elim hq
  | ok fl =>
    cases fl with
    | ret u => exact I.after hq
    | next => exact False.elim hq
    | brk => exact False.elim hq
    | cont => exact False.elim hq
theorem call_lenO (F : FnOk X.prog X.w X.K X.mg X.base CX0 k f fd ps sp) (hr : Room (k + 1) X.A) (hb : Binds X.K fd ps []) (hs : PySem.W.findIn X.K (.ref C) "__len__" = some (some (.ref f))) (hf : PySem.W.isFn X.K (.ref f) = true) :
    CallR X (.builtin "len") (fun xs H Q => ∃ a dx fs, xs = [.ref a] ∧ H a = some (.ins C dx fs) ∧ sp [.ref a] H (fun v H' => ∃ n : Int, v = .int n ∧ 0 ≤ n ∧ n < 2 ^ 63 ∧ Q (.int n) H') E0) := by
  intro pins s σ H xs us Q I r h
  obtain ⟨a, dx, fs, rfl, ha, h⟩ := h
  obtain ⟨u, rfl, ru⟩ := vals1 r
  cases ru
  obtain ⟨mA, J, _⟩ := ins_get I.hok ha
  obtain ⟨od, J, _⟩ := J.look
  obtain ⟨m, hF⟩ := I.fr
  refine PySem.W.len_K hF I.ok.mod.kin J hs hf (wpAny_mono (run_in1 F hr hb I (us := [.ref a]) (vs := [.ref a]) (.cons rfl .nil) h rfl) (fun v s' q => ?_) fun _ _ z => z)
  obtain ⟨w, H', I', rw, n, rfl, h0, h1, q⟩ := q
  obtain ⟨t, rfl⟩ := rw
  exact ⟨⟨h0, h1⟩, .int n, H', I'.tok _, ⟨_, rfl⟩, q⟩
/-- != of two instances of a class with its own __eq__ and object's __ne__ -/
theorem ne_own {prog : Program} {w : World} {A : Around} {E : Value → Shared → Prop} {s : Shared} {K : PySem.W.Frag} {a b C f : Addr} {oa ob : Obj} {da db : Option Obj} {Q : Value → Shared → Prop} (hu : A.units + 1 < cLine) (KX : K.In s.heap)
    (Ia : PySem.W.InstAt s.heap a oa C da) (Ib : PySem.W.InstAt s.heap b ob C db) (hne : PySem.W.findIn K (.ref C) "__ne__" = some (some (.builtin "object.__ne__"))) (heq : PySem.W.findIn K (.ref C) "__eq__" = some (some (.ref f)))
    (hf : PySem.W.isFn K (.ref f) = true) (hm : PySem.W.mroIn K C (.type "object") = some true)
    (h : wpAny (model prog w) A.in1 (call (.ref f) [.ref a, .ref b]) (fun v s' => ∃ r, v = .bool r ∧ Q (.bool (!r)) s') E s) : wpAny (model prog w) A (compareOp .NotEq (.ref a) (.ref b)) Q E s := by
  have obj : wpAny (model prog w) A.in1 (Builtin.«object.__ne__» ⟨[.ref a, .ref b], []⟩) (fun fin s' => ∃ v, fin = .done (.ret v) ∧ (∃ r, v = .bool r ∧ Q (.bool r) s')) E s := by
    unfold Builtin.«object.__ne__»
    have hu1 : A.in1.units < cLine := hu
    repeat (first
      | with_reducible refine wpAny_cRoomFor hu1 ?_
      | (refine wpAny_bind (m := callSpecialIfBound? (.ref a) (Str.ofString "__eq__") [.ref b]) (PySem.W.ifBound_K KX Ia heq hf (wpAny_mono h (fun v s' hv => ?_) fun _ _ e => e)); obtain ⟨r, rfl, q⟩ := hv)
      | (refine wpAny_bind (m := truthy (.bool _)) (wpAny_truthy_bool ?_))
      | wp_step)
    all_goals exact ⟨_, rfl, _, rfl, by assumption⟩
  have chk : wpAny (model prog w) A.in1 (checkBuiltinCall "object.__ne__" ⟨[.ref a, .ref b], []⟩) (fun _ s' => s' = s) E s := by
    simp only [checkBuiltinCall, PySem.F.cmpKind_ne, PySem.F.cmpSplit_ne]
    refine wpAny_bind ?_
    · unfold isInstance
      refine wpAny_bind (Ia.type.here ((PySem.W.looks_mroIn KX hm).here ?_))
      cases hsig : Manifest.signature? "object.__ne__" with
      | none => exact wpAny_pure rfl
      | some sig =>
        have ha := PySem.F.cmpArgs_ne (.ref a) (.ref b)
        simp only [argsOk, hsig] at ha
        have h2 : Bind.checkArgs "object.__ne__" sig ⟨[.ref a, .ref b], []⟩ = pure () := ha
        show wpAny _ _ (Bind.checkArgs "object.__ne__" sig ⟨[.ref a, .ref b], []⟩) _ _ s
        rw [h2]
        exact wpAny_pure rfl
  have sl := PySem.F.slot_object_ne
  have cal : wpAny (model prog w) A (call (.builtin "object.__ne__") [.ref a, .ref b]) (fun v s' => ∃ r, v = .bool r ∧ Q (.bool r) s') E s :=
    wpAny_call (codeAny_call_builtin sl.plain PySem.F.cmpEntry_ne (wpAny_mono chk (fun _ s' e => by
      subst e
      refine wpAny_mono obj (fun fin s2 z => ?_) fun _ _ z => z
      obtain ⟨v, rfl, r, rfl, q⟩ := z
      exact ⟨r, rfl, q⟩) fun _ _ z => z))
  have try_ : wpAny (model prog w) A (tryCompare (.ref a) "__ne__" (.ref b)) (fun r s' => ∃ k, r = some (.bool k) ∧ Q (.bool k) s') E s := by
    unfold tryCompare
    refine wpAny_bind (m := callSpecialIfBound? (.ref a) (Str.ofString "__ne__") [.ref b]) ?_
    simp only [callSpecialIfBound?, bindSpecialIfBound?]
    refine wpAny_holding (wpAny_bind (wpAny_bind (wpAny_bind (Ia.type.here ((PySem.W.looks_findIn KX hne).here ?_)))))
    simp only [sl.bind]
    have fin : wpAny (model prog w) A (call (.builtin "object.__ne__") ([.ref a] ++ [.ref b]) >>= fun v => pure (some v)) (fun r s' => ∃ k, r = some (.bool k) ∧ Q (.bool k) s') E s :=
      wpAny_bind (wpAny_mono cal (fun v s' ⟨k, e, q⟩ => wpAny_pure ⟨k, by rw [e], q⟩) fun _ _ z => z)
    have out : ∀ {r : Option Value} {s' : Shared}, (∃ k, r = some (.bool k) ∧ Q (.bool k) s') → wpAny (model prog w) A (match r with | some .notImplemented | none => pure none | some v => pure (some v)) (fun r s' => ∃ k, r = some (.bool k) ∧ Q (.bool k) s') E s' := fun {r s'} ⟨k, e, q⟩ => by
      subst e
      exact wpAny_pure ⟨k, rfl, q⟩
    refine wpAny_bind (wpAny_askSetting (wpAny_ite ?_))
    split
    · exact wpAny_bind (wpAny_pure (wpAny_pure (wpAny_mono fin (fun r s' z => out z) fun _ _ z => z)))
    · exact wpAny_tryCatch (wpAny_bind (wpAny_pure (wpAny_pure (wpAny_mono fin (fun r s' z => out z) fun _ _ z => z))))
  show wpAny _ _ (richCompare .NotEq (.ref a) (.ref b)) _ _ s
  unfold richCompare
  simp only [oneThing_ref]
  refine wpAny_holding (wpAny_bind (wpAny_cRoomFor (Nat.lt_of_succ_lt hu) ?_))
  rw [PySem.cmpInfo_NotEq]
  dsimp only
  refine wpAny_bind (Ia.type.here (wpAny_bind (Ib.type.here ?_)))
  rw [show (Value.ref C != Value.ref C) = false from by simp]
  simp only [Bool.false_eq_true, if_false]
  refine wpAny_bind (wpAny_pure ?_)
  simp only [Bool.false_eq_true, if_false]
  refine wpAny_bind (wpAny_mono try_ (fun r s' z => ?_) fun _ _ z => z)
  obtain ⟨k, rfl, q⟩ := z
  exact wpAny_pure q
theorem op_neO (F : FnOk X.prog X.w X.K X.mg X.base CX0 k f fd ps sp) (hr : Room (k + 1) X.A) (hb : Binds X.K fd ps []) (hne : PySem.W.findIn X.K (.ref C) "__ne__" = some (some (.builtin "object.__ne__"))) (heq : PySem.W.findIn X.K (.ref C) "__eq__" = some (some (.ref f)))
    (hf : PySem.W.isFn X.K (.ref f) = true) (hm : PySem.W.mroIn X.K C (.type "object") = some true) :
    OpR X (compareOp .NotEq) (fun x y H Q => ∃ a b da db fs gs, x = .ref a ∧ y = .ref b ∧ H a = some (.ins C da fs) ∧ H b = some (.ins C db gs) ∧ sp [.ref a, .ref b] H (fun v H' => ∃ r : Bool, v = .bl r ∧ Q (.bl (!r)) H') E0) := by
  intro pins s σ H x y v u Q I rx ry h
  obtain ⟨a, b, da, db, fs, gs, rfl, rfl, ha, hb2, h⟩ := h
  cases rx
  cases ry
  obtain ⟨mA, J, _⟩ := ins_get I.hok ha
  obtain ⟨oa, J, _⟩ := J.look
  obtain ⟨mB, J2, _⟩ := ins_get I.hok hb2
  obtain ⟨ob, J2, _⟩ := J2.look
  have hu := hr.un
  refine ne_own (by omega) I.kIn J J2 hne heq hf hm (wpAny_mono (run_in1 F hr hb I (us := [.ref a, .ref b]) (vs := [.ref a, .ref b]) (.cons rfl (.cons rfl .nil)) h rfl) (fun v s' q => ?_) fun _ _ z => z)
  obtain ⟨w, H', I', rw, r, rfl, q⟩ := q
  exact ⟨r, rw, .bl (!r), H', I', rfl, q⟩
/-- text * int -/
theorem op_mulS : OpR X (binaryOp .Mult) (fun x y H Q => ∃ (z : Str) (k : Int), x = .str z ∧ y = .int k ∧ 1 ≤ k ∧ k ≤ 1000 ∧ z.length ≤ 1000 ∧ (⟨(List.replicate k.toNat z.cps).foldl (· ++ ·) #[]⟩ : Str).length ≤ sizeLine ∧ Q (.str (if k = 1 then z else if z.length = 0 then z else ⟨(List.replicate k.toNat z.cps).foldl (· ++ ·) #[]⟩)) H) := by
  intro pins s σ H x y v u Q I rx ry h
  obtain ⟨z, k, rfl, rfl, h1, h2, hz, hz2, q⟩ := h
  obtain ⟨t, rfl⟩ := rx
  obtain ⟨t', rfl⟩ := ry
  have n1 : ¬ k < 1 := by omega
  have hm : ((z.length : Nat) : Int) * k ≤ 1000000 := by
    have a1 : ((z.length : Nat) : Int) * k ≤ 1000 * k := Int.mul_le_mul_of_nonneg_right (by omega) (by omega)
    omega
  refine PySem.P.mul_str ?_ (fun _ _ => ?_) (fun _ _ => ?_) ?_
  · rw [Bool.or_eq_false_iff]
    exact ⟨decide_eq_false (by omega), decide_eq_false (by omega)⟩
  · have hk : (2 ^ 63 - 1 : Int) / k ≥ (2 ^ 63 - 1 : Int) / 1000 := by
      apply Int.le_ediv_of_mul_le (by omega)
      have : (2 ^ 63 - 1 : Int) / 1000 * k ≤ (2 ^ 63 - 1 : Int) / 1000 * 1000 := Int.mul_le_mul_of_nonneg_left h2 (by decide)
      have h3 : (2 ^ 63 - 1 : Int) / 1000 * 1000 ≤ 2 ^ 63 - 1 := by decide
      omega
    have h4 : (2 ^ 63 - 1 : Int) / 1000 = 9223372036854775 := by decide
    omega
  · refine decide_eq_false ?_
    have h3 : z.length * k.toNat ≤ 1000 * 1000 := Nat.mul_le_mul hz (by omega)
    rw [sizeLine_eq]
    omega
  · rw [if_neg n1]
    by_cases e1 : k = 1
    · subst e1
      rw [if_pos rfl] at q
      rw [if_pos (by rfl)]
      exact ⟨.str z, H, I, ⟨t, rfl⟩, q⟩
    · by_cases e2 : z.length = 0
      · rw [if_neg e1, if_pos e2] at q
        rw [if_pos (by rw [Bool.or_eq_true]; exact .inr (beq_iff_eq.mpr e2))]
        exact ⟨.str z, H, I, ⟨t, rfl⟩, q⟩
      · rw [if_neg e1, if_neg e2] at q
        rw [if_neg (by rw [Bool.or_eq_true]; rintro (h | h); exact e1 (beq_iff_eq.mp h); exact e2 (beq_iff_eq.mp h))]
        exact ⟨hz2, .str _, H, I.tok _, ⟨_, rfl⟩, q⟩
end
/-! ### len(set(texts)), the texts all different -/
section
variable {prog : Program} {w : World} {A : Around} {R : Result → Shared → Prop} {I : Addr} {fp wr : List Addr} {G : Array GenState → Array GenState → Prop} {n : Nat} {P : Nat → Value → Prop} {St : Nat → Shared → Prop}
/-- the first i texts are in the set -/
def SetUpTo (prog : Program) (w : World) (S : Addr) (xs : List Str) (i : Nat) (h : Heap) : Prop := h.SetOf (PySem.strKind prog w) S (fun k => decide (k ∈ xs.take i)) i
theorem SetUpTo.stay {S : Addr} {xs : List Str} {i : Nat} {h h' : Heap} (x : SetUpTo prog w S xs i h) (k : ∀ o, h.get? S = some o → h'.get? S = some o) : SetUpTo prog w S xs i h' :=
  let ⟨o, es, ep, t, ho, r⟩ := x
  ⟨o, es, ep, t, k o ho, r⟩
theorem set_loop (W : WalksS prog w A.in1 I fp wr G n P St) (S : Addr) (hSf : S ∉ fp) (xs : List Str) (hsz : xs.length = n) (hnd : xs.Nodup) (hb : n + 1 < scanBound) (hval : ∀ i v, P i v → ∃ x t, xs[i]? = some x ∧ v = .str x t) :
    ∀ (k i : Nat) (s : Shared), n = i + k → St i s → SetUpTo prog w S xs i s.heap → (∀ s', Moved (S :: wr) G s s' → SetUpTo prog w S xs n s'.heap → R (.ok (.ret .none)) s') →
      codeAny (model prog w) A (.builtin "set.update.loop" ⟨[.ref S, .ref I], []⟩) R s := by
  have hSw : S ∉ wr := fun h => hSf (W.sub _ h)
  have more : ∀ b ∈ wr, b ∈ S :: wr := fun b => List.mem_cons_of_mem _
  intro k
  induction k with
  | zero =>
    intro i s hi hst hS fin
    have hi' : n = i := hi
    subst hi'
    refine codeAny_builtin PyProof.Rows.F.entry_set_update_loop ?_
    rw [Around.under_plainId PyProof.Rows.F.plain_set_update_loop _]
    refine wpAny_bind (m := pyNext (.ref I)) (W.done s _ _ hst fun s' hm => ?_)
    exact wpAny_pure (fin s' (hm.mono more) (hS.stay fun o e => hm.heap S o hSw e))
  | succ k ih =>
    intro i s hi hst hS fin
    have lt : i < n := by omega
    refine codeAny_builtin PyProof.Rows.F.entry_set_update_loop ?_
    rw [Around.under_plainId PyProof.Rows.F.plain_set_update_loop _]
    refine wpAny_bind (m := pyNext (.ref I)) (W.item i s _ _ lt hst fun v s' hP hst' hm => ?_)
    obtain ⟨x, t, hx, rfl⟩ := hval i v hP
    have new : x ∉ xs.take i := fun z => by
      obtain ⟨j, hj⟩ := List.mem_iff_getElem?.mp z
      rw [List.getElem?_take] at hj
      split at hj
      · rename_i hji
        obtain ⟨h1, e1⟩ := List.getElem?_eq_some_iff.mp hj
        obtain ⟨h2, e2⟩ := List.getElem?_eq_some_iff.mp hx
        exact (List.pairwise_iff_getElem.mp hnd j i h1 h2 hji) (e1.trans e2.symm)
      · cases hj
    refine wpAny_bind (m := holding [Value.str x t] (setAdd S (.str x t))) (wpAny_holding ?_)
    unfold setAdd
    refine wpAny_holding (wpAny_bind ((PySem.strKind prog w).pyHash (k := x) (strKind_is _ _ _ _) ?_))
    refine wpAny_setAddHashed_of (knd := PySem.strKind prog w) (s := { s' with toks := s'.toks + 1 }) (strKind_is _ _ _ _) rfl (hS.stay fun o e => hm.heap S o hSw e) (by omega) fun h' sb h2 => ?_
    have hS2 : SetUpTo prog w S xs (i + 1) h' := by
      refine PyProof.Rows.SetOf_congr h2 (fun k' => ?_) (if_neg (by simpa using new))
      rw [Bool.eq_iff_iff, Bool.or_eq_true, decide_eq_true_iff, decide_eq_true_iff, decide_eq_true_iff, List.take_add_one, hx, Option.toList_some, List.mem_append, List.mem_singleton]
    refine wpAny_pure ⟨plainId_quiet PyProof.Rows.F.plain_set_update_loop _, ih (i + 1) _ (by omega) (W.frame _ s' _ _ hst' (Nat.le_succ _) fun b hb o e => ?_) hS2 fun s2 hm2 hS3 => ?_⟩
    · have nb : b ≠ S := fun h => hSf (by rw [← h]; exact hb)
      rw [sb.2 b nb]
      exact e
    · refine fin s2 (Moved.trans W.gtrans ((hm.mono more).then_heap (Nat.le_succ _) fun b o hb e => ?_) hm2) hS3
      have nb : b ≠ S := fun h => hb (by rw [h]; exact List.mem_cons_self)
      rw [sb.2 b nb]
      exact e
end
end L2

set_option maxHeartbeats 8000000
/-! set(texts) and its length. -/
namespace L2
open PySem PySem.Spec PyProof.Rows
section
variable {prog : Program} {w : World} {A : Around} {E : Value → Shared → Prop} {s : Shared}
abbrev freshSet (led : Bool) : Obj := { cls := .type "set", dict := none, data := .set #[] 0 (.fresh 0 0 led) }
/-- what the set's making leaves -/
def SetMade (prog : Program) (w : World) (xs : List Str) (s s' : Shared) : Prop := ∃ h' tk, s' = { s with heap := h', toks := tk } ∧ SetUpTo prog w s.heap.objs.size xs xs.length h' ∧ ∀ b o, s.heap.get? b = some o → h'.get? b = some o
theorem call_set_texts {l : Addr} {its : List Value} {xs : List Str} {Q : Value → Shared → Prop} (hh : A.handled = none) (hl : s.heap.IsList l its.toArray) (hx : Vals (xs.map V.str) its) (hnd : xs.Nodup) (hb : xs.length + 1 < scanBound)
    (h : ∀ s', SetMade prog w xs s s' → Q (.ref s.heap.objs.size) s') : wpAny (model prog w) A (call (.type "set") [.ref l]) Q E s := by
  obtain ⟨c, tl, hmro⟩ := PySem.F.called_set.mro
  have hmade := PySem.F.called_set.made
  have hsub := PySem.F.called_set.sub
  have h1 := PySem.F.called_set.notType
  have h2 := PySem.F.called_set.canCreate
  have hct := PySem.F.typeCall_set_1 (.ref l)
  refine wpAny_call (codeAny_of_tree ?_)
  show wpAny _ _ (callAny (.type "set") _) _ _ _
  refine wpAny_pure ⟨Code.quiet_builtin _ (by decide +kernel), codeAny_builtin PySem.F.entry_type_call ?_⟩
  rw [Around.under_plain (weight_type_call_type "set" [.ref l] []) rfl]
  repeat (any_goals (first | assumption | wp_step))
  -- set.__new__, then set.__init__
  refine codeAny_mono (code_set_new_1 (.ref l) (E := E) (Q₁ := fun obj s1 => ∃ led : Bool, obj = .ref s.heap.objs.size ∧ s1 = { s with heap := s.heap.push (freshSet led) }) fun led => ⟨led, rfl, rfl⟩) fun r s1 hr => ?_
  match r, hr with
  | .error e, hr => exact hr
  | .ok .next, hr => exact False.elim hr
  | .ok .brk, hr => exact False.elim hr
  | .ok .cont, hr => exact False.elim hr
  | .ok (.ret obj), hr =>
    obtain ⟨led, rfl, rfl⟩ := hr
    have hS : (s.heap.push (freshSet led)).get? s.heap.objs.size = some (freshSet led) := Heap.get?_push_size _ rfl
    have hT : Shared.TypeIs { s with heap := s.heap.push (freshSet led) } (.ref s.heap.objs.size) "set" := ⟨_, hS, rfl⟩
    have hli := PySem.F.called_set.init.lookup
    have hbi := PySem.F.called_set.init.bind (.ref s.heap.objs.size)
    repeat (any_goals (first | assumption | wp_step))
    refine codeAny_mono (codeAny_call_builtin (R := wants (fun r s2 => r = .none ∧ SetMade prog w xs s s2) E) PySem.F.called_set.init.plain PySem.F.entry_set_init (check_set_init_1 hT ?_)) fun r s2 hr => ?_
    · obtain ⟨⟨oc, od, dt, sl⟩, hol, hc, n, hd⟩ := hl
      cases hc
      cases hd
      have hol' : (s.heap.push (freshSet led)).get? l = some { cls := .type "list", dict := od, data := .seq its.toArray n, slots := sl } := Heap.get?_push_of_some _ hol
      have hsls := PySem.F.sub_list_set
      have hslf := PySem.F.sub_list_frozenset
      have hne : (Value.type "list" == Value.type "dict") = false := by decide
      have hl1 : (s.heap.push (freshSet led)).IsList l its.toArray := ⟨_, hol', rfl, n, rfl⟩
      have lls : l < s.heap.objs.size := Heap.lt_size hol
      have sz : (s.heap.push (freshSet led)).objs.size = s.heap.objs.size + 1 := Heap.size_push ..
      have nel : l ≠ (s.heap.push (freshSet led)).objs.size := by rw [sz]; exact Nat.ne_of_lt (Nat.lt_succ_of_lt lls)
      unfold Builtin.«set.__init__» noKeywords Builtin.Frozenset.updateFrom
      generalize hPI : pyIter = PI
      wp_walk
      subst hPI
      refine wpAny_pyIter_list hl1 (wpAny_bind (wpAny_runValue ?_))
      have hz : xs.length = its.toArray.size := by rw [List.size_toArray, ← hx.length, List.length_map]
      refine set_loop ((Walks.list (by simp [hh]) _ l nel its.toArray).toS) s.heap.objs.size ?_ xs hz hnd (by rw [← hz]; exact hb) (fun i v hv => ?_) its.toArray.size 0 _ (by omega) ⟨⟨_, Heap.get?_push_size _ rfl, rfl, rfl⟩, hl1.push _⟩ ?_ fun s' hm hS' => ?_
      · rw [sz, List.mem_cons, List.mem_singleton, not_or]
        exact ⟨Nat.ne_of_lt (Nat.lt_succ_self _), Nat.ne_of_gt lls⟩
      · have hv2 : its[i]? = some v := by simpa using hv
        have hi : i < xs.length := by rw [hz, List.size_toArray]; exact (List.getElem?_eq_some_iff.mp hv2).1
        obtain ⟨u, hu, t, rfl⟩ := hx.get (i := i) (x := .str xs[i]) (by rw [List.getElem?_map, List.getElem?_eq_getElem hi]; rfl)
        rw [hv2] at hu
        exact ⟨xs[i], t, List.getElem?_eq_getElem hi, Option.some.inj hu⟩
      · exact PyProof.Rows.SetOf_congr ((PyProof.Rows.setObjOf_fresh (knd := PySem.strKind prog w) led).setOf (Heap.get?_push_of_some _ hS) (by unfold scanBound; omega)) (fun _ => rfl) rfl
      · obtain ⟨h', g', d', tk', os'⟩ := s'
        obtain rfl : g' = s.gens := hm.gens
        obtain rfl : d' = s.drawn := hm.drawn
        obtain rfl : os' = s.os := hm.os
        refine wpAny_pure ?_
        show wpAny _ _ (ret Value.none) _ _ _
        rw [← hz] at hS'
        refine wpAny_pure ⟨rfl, h', tk', rfl, hS', fun b o e => ?_⟩
        have lb : b < s.heap.objs.size := Heap.lt_size e
        refine hm.heap b o ?_ (Heap.get?_push_of_some _ (Heap.get?_push_of_some _ e))
        rw [List.mem_cons, List.mem_singleton, not_or, sz]
        exact ⟨Nat.ne_of_lt lb, Nat.ne_of_lt (Nat.lt_succ_of_lt lb)⟩
    · match r, hr with
      | .error e, hr => exact hr
      | .ok .next, hr => exact False.elim hr
      | .ok .brk, hr => exact False.elim hr
      | .ok .cont, hr => exact False.elim hr
      | .ok (.ret r), hr =>
        obtain ⟨rfl, hm⟩ := hr
        repeat (any_goals (first | assumption | wp_step))
        exact h _ hm
end
section
variable {X : Cx}
def tLenTexts (K : PySem.W.Frag) (ta : TE) : TE := fun σ H Q => ta σ H fun x H1 => ∃ (l : Addr) (xs : List Str), x = .ref l ∧ SqL K H1 l (xs.map V.str) ∧ xs.Nodup ∧ xs.length ≤ 1000 ∧ Q (.int (xs.length : Nat)) H1
theorem pe_lenTexts {a : Expr} {ta : TE} {p p2 q pos : Pos} (hc : X.calm = true) (hg : Gl X "len") (hm : X.mg "len" = none) (hg2 : Gl X "set") (hm2 : X.mg "set" = none) (ha : PE X a ta)
    (na : starEach [a] X.env = (false, eval a X.env) :: starEach [] X.env := by rfl) : PE X (.Call (.Name "len" p) [.Call (.Name "set" p2) [a] [] q] [] pos) (tLenTexts X.K ta) := by
  refine ⟨fun pins s σ H Q I h => Call_ (ld_blt I hg hm boot_len ?_)⟩
  refine PyProof.Rows.callWith_builtin1 (PyProof.Rows.args_cons (Call_ (ld_blt I hg2 hm2 boot_set ?_)) rfl) rfl rfl
  refine PyProof.Rows.callWith_type1 (PyProof.Rows.args_cons (thn (ha.run pins s σ H _ I h) fun v s1 ⟨x, H1, I1, r1, l, xs, ex, hq, hnd, hl, q1⟩ => PyProof.Rows.args_nil ?_) na) na rfl
  subst ex
  cases r1
  obtain ⟨its, r, pl, hz⟩ := I1.list hq
  refine call_set_texts (I1.ok.hd hc) pl.isList r hnd (by unfold scanBound; omega) fun s' ⟨h', tk, e, hS, hk⟩ => PyProof.Rows.args_nil ?_
  subst e
  obtain ⟨o, es, ep, t, ho, hex, hd, _, _, _, hf, hn⟩ := hS
  have I2 : Inv X pins σ H1 { s1 with heap := h', toks := tk } := I1.kept hk
  exact call_len_set ho hex hd hf (by rw [hn]; omega) ⟨.int xs.length, H1, I2.tok _, ⟨_, by rw [hn]⟩, q1⟩
end
end L2

set_option maxHeartbeats 4000000
/-! A data layer: values as data, environments of data, evaluation without a heap in sight. -/
namespace BA
open PySem PySem.Spec PyProof.Rows L2

/-- data: what a value is, its objects looked through -/
inductive D where
  | non | bl (b : Bool) | int (i : Int) | str (s : Str) | tup (xs : List D) | lst (xs : List D)
  | ins (C : Addr) (ns : List Str) (xs : List D) | dic (kvs : List (Int × Int)) | tpw (xs : List D)

abbrev dicV (kvs : List (Int × Int)) : List (Key × V) := kvs.map fun p => (Sum.inl p.1, V.int p.2)
mutual
def Has (S : Hp) : D → V → Prop
  | .non, v => v = .non
  | .bl b, v => v = .bl b
  | .int i, v => v = .int i
  | .str s, v => v = .str s
  | .tup xs, v => ∃ a vs, v = .ref a ∧ TupF S a vs ∧ HasL S xs vs
  | .tpw xs, v => ∃ a vs, v = .ref a ∧ S a = some (.tup vs) ∧ HasL S xs vs
  | .lst xs, v => ∃ a vs, v = .ref a ∧ S a = some (.lst vs) ∧ HasL S xs vs
  | .ins C ns xs, v => ∃ a dx vs, v = .ref a ∧ S a = some (.ins C dx (ns.zip vs)) ∧ ns.length = vs.length ∧ HasL S xs vs
  | .dic kvs, v => ∃ a, v = .ref a ∧ S a = some (.dK (dicV kvs))
def HasL (S : Hp) : List D → List V → Prop
  | [], vs => vs = []
  | x :: xs, vs => ∃ v r, vs = v :: r ∧ Has S x v ∧ HasL S xs r
end

def Ext (S S' : Hp) : Prop := ∀ a o, S a = some o → S' a = some o
theorem Ext.refl (S : Hp) : Ext S S := fun _ _ h => h
theorem Ext.trans {S S1 S2 : Hp} (a : Ext S S1) (b : Ext S1 S2) : Ext S S2 := fun x o h => b x o (a x o h)
theorem Ext.rd {S S' : Hp} (e : Ext S S') {a : Addr} {u : HO} (h : Rd S a u) : Rd S' a u := by
  rcases h with h | ⟨o, h⟩
  · exact .inl (e _ _ h)
  · exact .inr ⟨o, e _ _ h⟩
theorem Ext.sqL {K : PySem.W.Frag} {S S' : Hp} (e : Ext S S') {a : Addr} {xs : List V} (h : SqL K S a xs) : SqL K S' a xs := by
  rcases h with h | h
  · exact .inl (e.rd h)
  · exact .inr h
theorem Ext.sqT {K : PySem.W.Frag} {S S' : Hp} (e : Ext S S') {a : Addr} {xs : List V} (h : SqT K S a xs) : SqT K S' a xs := by
  rcases h with h | h
  · exact .inl (e.rd h)
  · exact .inr h
theorem Ext.upd {S : Hp} {p : Addr} {o : HO} (h : S p = none) : Ext S (upd S p o) := fun a u e => by
  rw [upd_ne (ne_of_none e h)]
  exact e
section
variable {S S' : Hp}
mutual
theorem Has.mono (e : Ext S S') : ∀ {d : D} {v : V}, Has S d v → Has S' d v
  | .non, _, h => h
  | .bl _, _, h => h
  | .int _, _, h => h
  | .str _, _, h => h
  | .tup _, _, ⟨a, vs, q, ⟨o, h1, hd⟩, h2⟩ => ⟨a, vs, q, ⟨o, e _ _ h1, hd⟩, HasL.mono e h2⟩
  | .tpw _, _, ⟨a, vs, q, h1, h2⟩ => ⟨a, vs, q, e _ _ h1, HasL.mono e h2⟩
  | .lst _, _, ⟨a, vs, q, h1, h2⟩ => ⟨a, vs, q, e _ _ h1, HasL.mono e h2⟩
  | .ins _ _ _, _, ⟨a, dx, vs, q, h1, h2, h3⟩ => ⟨a, dx, vs, q, e _ _ h1, h2, HasL.mono e h3⟩
  | .dic _, _, ⟨a, q, h1⟩ => ⟨a, q, e _ _ h1⟩
theorem HasL.mono (e : Ext S S') : ∀ {ds : List D} {vs : List V}, HasL S ds vs → HasL S' ds vs
  | [], _, h => h
  | _ :: _, _, ⟨v, r, q, h1, h2⟩ => ⟨v, r, q, Has.mono e h1, HasL.mono e h2⟩
end
theorem HasL.length : ∀ {ds : List D} {vs : List V}, HasL S ds vs → ds.length = vs.length
  | [], vs, h => by rw [show vs = [] from h]; rfl
  | _ :: _, _, ⟨v, r, q, _, h2⟩ => by rw [q, List.length_cons, List.length_cons, HasL.length h2]
theorem HasL.append : ∀ {ds es : List D} {vs us : List V}, HasL S ds vs → HasL S es us → HasL S (ds ++ es) (vs ++ us)
  | [], _, vs, _, h, g => by rw [show vs = [] from h]; exact g
  | _ :: _, _, _, _, ⟨v, r, q, h1, h2⟩, g => by rw [q]; exact ⟨v, _, rfl, h1, HasL.append h2 g⟩
theorem HasL.one {d : D} {v : V} (h : Has S d v) : HasL S [d] [v] := ⟨v, [], rfl, h, rfl⟩
theorem HasL.get : ∀ {ds : List D} {vs : List V} {i : Nat} {d : D}, HasL S ds vs → ds[i]? = some d → ∃ v, vs[i]? = some v ∧ Has S d v
  | [], _, _, _, _, e => by cases e
  | _ :: _, _, 0, _, ⟨v, r, q, h1, _⟩, e => by
    rw [q]
    cases e
    exact ⟨v, rfl, h1⟩
  | _ :: _, _, i + 1, _, ⟨v, r, q, _, h2⟩, e => by
    rw [q]
    exact HasL.get (i := i) h2 e
theorem HasL.drop : ∀ {ds : List D} {vs : List V} (n : Nat), HasL S ds vs → HasL S (ds.drop n) (vs.drop n)
  | _, _, 0, h => h
  | [], vs, _ + 1, h => by rw [show vs = [] from h]; exact rfl
  | _ :: _, _, n + 1, ⟨v, r, q, _, h2⟩ => by rw [q]; exact HasL.drop n h2
theorem HasL.take : ∀ {ds : List D} {vs : List V} (n : Nat), HasL S ds vs → HasL S (ds.take n) (vs.take n)
  | _, _, 0, _ => rfl
  | [], vs, _ + 1, h => by rw [show vs = [] from h]; exact rfl
  | _ :: _, _, n + 1, ⟨v, r, q, h1, h2⟩ => by rw [q]; exact ⟨v, _, rfl, h1, HasL.take n h2⟩
theorem HasL.reverse : ∀ {ds : List D} {vs : List V}, HasL S ds vs → HasL S ds.reverse vs.reverse
  | [], vs, h => by rw [show vs = [] from h]; exact rfl
  | _ :: _, _, ⟨v, r, q, h1, h2⟩ => by rw [q, List.reverse_cons, List.reverse_cons]; exact (HasL.reverse h2).append (HasL.one h1)
theorem HasL.ints : ∀ {ns : List Int} {vs : List V}, HasL S (ns.map D.int) vs → vs = ns.map V.int
  | [], _, h => h
  | _ :: _, _, ⟨v, r, q, h1, h2⟩ => by rw [q, show v = _ from h1, HasL.ints h2]; rfl
theorem HasL.of_ints : ∀ (ns : List Int), HasL S (ns.map D.int) (ns.map V.int)
  | [] => rfl
  | n :: ns => ⟨_, _, rfl, rfl, HasL.of_ints ns⟩
theorem HasL.replicate {d : D} {v : V} (h : Has S d v) : ∀ n : Nat, HasL S (List.replicate n d) (List.replicate n v)
  | 0 => rfl
  | n + 1 => ⟨v, _, rfl, h, HasL.replicate h n⟩
end

/-- the well of draws: three numbers -/
def Well (H : Hp) (a : Addr) : Prop := ∃ A B C : Int, H a = some (.lst [.int A, .int B, .int C]) ∧ 0 ≤ A ∧ 0 ≤ B ∧ B < 2147483647
/-- a thing of one's own that may still change: a list, an instance in the making, a dict of ints that are all True -/
inductive Kd where
  | l | o (C a dx : Addr) (ns : List Str) | t (ks : List Int)
def Kd.ho : Kd → List V → HO
  | .l, vs => .lst vs
  | .o C _ dx ns, vs => .ins C dx (ns.zip vs)
  | .t ks, _ => .dK (ks.map fun k => ((Sum.inl k : Key), V.bl true))
def Kd.fit : Kd → Addr → List D → Prop
  | .l, _, _ => True
  | .o _ a _ ns, b, xs => b = a ∧ ns.length = xs.length
  | .t _, _, xs => xs = []
/-- what a slot holds: data, a list of one's own that may change, the well, anything -/
inductive Ent where
  | dat (d : D) | own (k : Kd) (xs : List D) | well | unb | scr (ns : List Int)
def EntOk (K : PySem.W.Frag) (S H : Hp) : Ent → Option V → Prop
  | .dat d, v => ∃ x, v = some x ∧ Has S d x
  | .own k xs, v => ∃ a vs, v = some (.ref a) ∧ S a = none ∧ H a = some (k.ho vs) ∧ HasL S xs vs ∧ k.fit a xs
  | .well, v => ∃ a, v = some (.ref a) ∧ S a = none ∧ Well H a
  | .unb, _ => True
  | .scr ns, v => ∃ a, v = some (.ref a) ∧ SqL K S a (ns.map V.int)
def WL (σ : L2.St) (δ : List Ent) (a : Addr) : Prop := ∃ i : Nat, δ[i]? = some Ent.well ∧ σ[i]? = some (some (.ref a))
def Priv : Ent → Prop
  | .own _ _ => True
  | .well => True
  | _ => False
/-- the heap has grown; only the wells may have changed -/
structure Grow (W : Addr → Prop) (S H S' H' : Hp) : Prop where
  ss : Ext S S'
  hs : Ext S' H'
  fr : ∀ a, H a ≠ none → S a = none → S' a = none
  kp : ∀ a o, H a = some o → ¬ W a → H' a = some o
  wk : ∀ a, W a → Well H a → Well H' a
  up : ∀ a, H a ≠ none → H' a ≠ none
theorem Grow.refl {W : Addr → Prop} {S H : Hp} (h : Ext S H) : Grow W S H S H := ⟨Ext.refl _, h, fun _ _ h => h, fun _ _ h _ => h, fun _ _ h => h, fun _ h => h⟩
theorem Grow.trans {W : Addr → Prop} {S H S1 H1 S2 H2 : Hp} (a : Grow W S H S1 H1) (b : Grow W S1 H1 S2 H2) : Grow W S H S2 H2 :=
  ⟨a.ss.trans b.ss, b.hs, fun x h n => b.fr x (a.up x h) (a.fr x h n), fun x o h n => b.kp x o (a.kp x o h n) n, fun x w h => b.wk x w (a.wk x w h), fun x h => b.up x (a.up x h)⟩
/-- a new stable object -/
theorem Grow.new {W : Addr → Prop} {S H : Hp} {p : Addr} {o : HO} (h : Ext S H) (n : H p = none) (w : ∀ a, W a → H a ≠ none) : Grow W S H (upd S p o) (upd H p o) := by
  have sn : S p = none := by
    cases q : S p with
    | none => rfl
    | some u => rw [h _ _ q] at n; cases n
  refine ⟨Ext.upd sn, fun a u e => ?_, fun a ha hs => ?_, fun a u e _ => ?_, fun a wa e => ?_, fun a ha => ?_⟩
  · by_cases q : a = p
    · subst q; rw [upd_same] at e ⊢; exact e
    · rw [upd_ne q] at e ⊢; exact h _ _ e
  · have q : a ≠ p := fun z => ha (z ▸ n)
    rw [upd_ne q]; exact hs
  · rw [upd_ne (ne_of_none e n)]; exact e
  · have q : a ≠ p := fun z => w a wa (z ▸ n)
    obtain ⟨x, y, z, e, r⟩ := e
    exact ⟨x, y, z, by rw [upd_ne q]; exact e, r⟩
  · by_cases q : a = p
    · subst q; rw [upd_same]; exact fun z => nomatch z
    · rw [upd_ne q]; exact ha
/-- the entry of a def -/
structure Base where
  S0 : Hp
  H0 : Hp
  W : Addr → Prop
structure Ok (K : PySem.W.Frag) (B : Base) (S H : Hp) (σ : L2.St) (δ : List Ent) : Prop where
  len : σ.length = δ.length
  ent : ∀ (i : Nat) (e : Ent), δ[i]? = some e → ∃ v, σ[i]? = some v ∧ EntOk K S H e v
  sep : ∀ (i j : Nat) (k : Kd) (xs : List D) (e : Ent) (a : Addr), i ≠ j → δ[i]? = some (.own k xs) → δ[j]? = some e → Priv e → σ[i]? = some (some (.ref a)) → σ[j]? ≠ some (some (.ref a))
  sh : Ext S H
  new : ∀ (i : Nat) (k : Kd) (xs : List D) (a : Addr), δ[i]? = some (.own k xs) → σ[i]? = some (some (.ref a)) → B.H0 a = none
  neww : ∀ a, WL σ δ a → B.W a ∨ B.H0 a = none
  base : Grow B.W B.S0 B.H0 S H
section
variable {K : PySem.W.Frag} {B : Base} {S H S' H' : Hp} {σ : L2.St} {δ : List Ent}
theorem Ok.well (ok : Ok K B S H σ δ) {a : Addr} (h : WL σ δ a) : S a = none ∧ Well H a := by
  obtain ⟨i, h1, h2⟩ := h
  obtain ⟨v, e, b, q, r⟩ := ok.ent i _ h1
  rw [h2] at e
  cases e
  cases q
  exact r
theorem Ok.wne (ok : Ok K B S H σ δ) {a : Addr} (h : WL σ δ a) : H a ≠ none := by
  obtain ⟨_, x, y, z, e, _⟩ := ok.well h
  rw [e]
  exact fun z => nomatch z
theorem Ok.grow (ok : Ok K B S H σ δ) (g : Grow (WL σ δ) S H S' H') : Ok K B S' H' σ δ := by
  refine ⟨ok.len, fun i e h => ?_, ok.sep, g.hs, ok.new, ok.neww, ?_⟩
  · obtain ⟨v, hv, r⟩ := ok.ent i e h
    refine ⟨v, hv, ?_⟩
    cases e with
    | dat d =>
      obtain ⟨x, q, r⟩ := r
      exact ⟨x, q, r.mono g.ss⟩
    | own k xs =>
      obtain ⟨a, vs, q, s0, h0, r, ft⟩ := r
      refine ⟨a, vs, q, g.fr a (by rw [h0]; exact fun z => nomatch z) s0, g.kp a _ h0 fun w => ?_, r.mono g.ss, ft⟩
      obtain ⟨j, w1, w2⟩ := w
      have ne : i ≠ j := fun z => by subst z; rw [h] at w1; cases w1
      exact ok.sep i j k xs _ a ne h w1 True.intro (by rw [hv, q]) w2
    | well =>
      obtain ⟨a, q, s0, w⟩ := r
      have wl : WL σ δ a := ⟨i, h, by rw [hv, q]⟩
      exact ⟨a, q, g.fr a (ok.wne wl) s0, g.wk a wl w⟩
    | unb => exact True.intro
    | scr ns => obtain ⟨a, q, r⟩ := r; exact ⟨a, q, g.ss.sqL r⟩
  · refine ⟨ok.base.ss.trans g.ss, g.hs, fun a h0 s0 => g.fr a (ok.base.up a h0) (ok.base.fr a h0 s0), fun a o h0 nw => ?_, fun a w h0 => ?_, fun a h0 => g.up a (ok.base.up a h0)⟩
    · refine g.kp a o (ok.base.kp a o h0 nw) fun w => ?_
      rcases ok.neww a w with q | q
      · exact nw q
      · rw [q] at h0; cases h0
    · have w1 := ok.base.wk a w h0
      by_cases wl : WL σ δ a
      · exact g.wk a wl w1
      · obtain ⟨x, y, z, e, r⟩ := w1
        exact ⟨x, y, z, g.kp a _ e wl, r⟩
theorem Ok.gnew (ok : Ok K B S H σ δ) {p : Addr} {o : HO} (n : H p = none) : Grow (WL σ δ) S H (upd S p o) (upd H p o) := Grow.new ok.sh n fun a w => ok.wne w
theorem Ok.refl (ok : Ok K B S H σ δ) : Grow (WL σ δ) S H S H := Grow.refl ok.sh
theorem Ok.snone (ok : Ok K B S H σ δ) {p : Addr} (n : H p = none) : S p = none := by
  cases q : S p with
  | none => rfl
  | some u => rw [ok.sh _ _ q] at n; cases n
theorem Ok.slot (ok : Ok K B S H σ δ) {i : Nat} {d : D} (h : δ[i]? = some (.dat d)) : ∃ v, σ[i]? = some (some v) ∧ Has S d v := by
  obtain ⟨v, e, x, q, r⟩ := ok.ent i _ h
  exact ⟨x, by rw [e, q], r⟩
structure OwnAt (K : PySem.W.Frag) (B : Base) (S H : Hp) (σ : L2.St) (δ : List Ent) (i : Nat) (k : Kd) (xs : List D) (a : Addr) (vs : List V) : Prop where
  sl : σ[i]? = some (some (.ref a))
  s0 : S a = none
  h0 : H a = some (k.ho vs)
  has : HasL S xs vs
  nw : ¬ WL σ δ a
  n0 : B.H0 a = none
  fit : k.fit a xs
  sep : ∀ (j : Nat) (k : Kd) (ys : List D), j ≠ i → δ[j]? = some (.own k ys) → σ[j]? ≠ some (some (.ref a))
theorem Ok.ownAt (ok : Ok K B S H σ δ) {i : Nat} {k : Kd} {xs : List D} (h : δ[i]? = some (.own k xs)) : ∃ a vs, OwnAt K B S H σ δ i k xs a vs := by
  obtain ⟨v, e, a, vs, q, s0, h0, r, ft⟩ := ok.ent i _ h
  subst q
  refine ⟨a, vs, e, s0, h0, r, fun w => ?_, ok.new i k xs a h e, ft, fun j k2 ys ne q => ok.sep i j k xs _ a (Ne.symm ne) h q True.intro e⟩
  obtain ⟨j, w1, w2⟩ := w
  have ne : i ≠ j := fun z => by subst z; rw [h] at w1; cases w1
  exact ok.sep i j k xs _ a ne h w1 True.intro e w2
theorem wl_set {i : Nat} {v : Option V} {e : Ent} {a : Addr} (ne : e ≠ .well) (h : WL (σ.set i v) (δ.set i e) a) : WL σ δ a := by
  obtain ⟨j, h1, h2⟩ := h
  by_cases q : i = j
  · subst q
    rw [List.getElem?_set] at h1
    simp only [if_pos] at h1
    split at h1
    · cases h1; exact absurd rfl ne
    · cases h1
  · rw [List.getElem?_set_ne q] at h1 h2
    exact ⟨j, h1, h2⟩
/-- data goes into a slot -/
theorem Ok.put (ok : Ok K B S H σ δ) {i : Nat} {d : D} {v : V} (h : Has S d v) : Ok K B S H (σ.set i (some v)) (δ.set i (.dat d)) := by
  refine ⟨by rw [List.length_set, List.length_set, ok.len], fun j e q => ?_, fun j k kd xs e a ne q1 q2 pr q3 q4 => ?_, ok.sh, fun j kd xs a q1 q2 => ?_, fun a w => ok.neww a (wl_set (by intro z; cases z) w), ok.base⟩
  · by_cases z : i = j
    · subst z
      rw [List.getElem?_set] at q
      simp only [if_pos] at q
      split at q
      · rename_i lt
        cases q
        exact ⟨some v, by rw [List.getElem?_set_self (by rw [ok.len]; exact lt)], v, rfl, h⟩
      · cases q
    · rw [List.getElem?_set_ne z] at q ⊢
      exact ok.ent j e q
  · by_cases z : i = j
    · subst z
      rw [List.getElem?_set] at q1
      simp only [if_pos] at q1
      split at q1 <;> cases q1
    · by_cases z2 : i = k
      · subst z2
        rw [List.getElem?_set] at q2
        simp only [if_pos] at q2
        split at q2
        · cases q2; exact pr
        · cases q2
      · rw [List.getElem?_set_ne z] at q1 q3
        rw [List.getElem?_set_ne z2] at q2 q4
        exact ok.sep j k kd xs e a ne q1 q2 pr q3 q4
  · by_cases z : i = j
    · subst z
      rw [List.getElem?_set] at q1
      simp only [if_pos] at q1
      split at q1 <;> cases q1
    · rw [List.getElem?_set_ne z] at q1 q2
      exact ok.new j kd xs a q1 q2
/-- a slot is forgotten -/
theorem Ok.drop (ok : Ok K B S H σ δ) {i : Nat} {v : Option V} : Ok K B S H (σ.set i v) (δ.set i .unb) := by
  refine ⟨by rw [List.length_set, List.length_set, ok.len], fun j e q => ?_, fun j k kd xs e a ne q1 q2 pr q3 q4 => ?_, ok.sh, fun j kd xs a q1 q2 => ?_, fun a w => ok.neww a (wl_set (by intro z; cases z) w), ok.base⟩
  · by_cases z : i = j
    · subst z
      rw [List.getElem?_set] at q
      simp only [if_pos] at q
      split at q
      · rename_i lt
        cases q
        exact ⟨v, by rw [List.getElem?_set_self (by rw [ok.len]; exact lt)], True.intro⟩
      · cases q
    · rw [List.getElem?_set_ne z] at q ⊢
      exact ok.ent j e q
  · by_cases z : i = j
    · subst z
      rw [List.getElem?_set] at q1
      simp only [if_pos] at q1
      split at q1 <;> cases q1
    · by_cases z2 : i = k
      · subst z2
        rw [List.getElem?_set] at q2
        simp only [if_pos] at q2
        split at q2
        · cases q2; exact pr
        · cases q2
      · rw [List.getElem?_set_ne z] at q1 q3
        rw [List.getElem?_set_ne z2] at q2 q4
        exact ok.sep j k kd xs e a ne q1 q2 pr q3 q4
  · by_cases z : i = j
    · subst z
      rw [List.getElem?_set] at q1
      simp only [if_pos] at q1
      split at q1 <;> cases q1
    · rw [List.getElem?_set_ne z] at q1 q2
      exact ok.new j kd xs a q1 q2
/-- a list of one's own, changed or new, goes into a slot -/
theorem Ok.putOwn (ok : Ok K B S H σ δ) {i : Nat} {kd : Kd} {xs : List D} {vs : List V} {a : Addr} (n : S a = none) (nw : ¬ WL σ δ a) (n0 : B.H0 a = none)
    (sep : ∀ (j : Nat) (k : Kd) (ys : List D), j ≠ i → δ[j]? = some (.own k ys) → σ[j]? ≠ some (some (.ref a))) (h : HasL S xs vs) (ft : kd.fit a xs) : Ok K B S (upd H a (kd.ho vs)) (σ.set i (some (.ref a))) (δ.set i (.own kd xs)) := by
  refine ⟨by rw [List.length_set, List.length_set, ok.len], fun j e q => ?_, fun j k kd2 ys e b ne q1 q2 pr q3 q4 => ?_, fun b o q => ?_, fun j kd2 ys b q1 q2 => ?_, fun b w => ok.neww b (wl_set (by intro z; cases z) w), ?_⟩
  · by_cases z : i = j
    · subst z
      rw [List.getElem?_set] at q
      simp only [if_pos] at q
      split at q
      · rename_i lt
        cases q
        exact ⟨some (.ref a), by rw [List.getElem?_set_self (by rw [ok.len]; exact lt)], a, vs, rfl, n, upd_same, h, ft⟩
      · cases q
    · rw [List.getElem?_set_ne z] at q ⊢
      obtain ⟨v, hv, r⟩ := ok.ent j e q
      refine ⟨v, hv, ?_⟩
      cases e with
      | dat d => exact r
      | own kd2 ys =>
        obtain ⟨b, us, e1, s0, h0, r⟩ := r
        have nb : b ≠ a := fun z2 => sep j kd2 ys (Ne.symm z) q (by rw [hv, e1, z2])
        exact ⟨b, us, e1, s0, by rw [upd_ne nb]; exact h0, r⟩
      | well =>
        obtain ⟨b, e1, s0, x, y, w, e2, r⟩ := r
        have nb : b ≠ a := fun z2 => nw ⟨j, q, by rw [hv, e1, z2]⟩
        exact ⟨b, e1, s0, x, y, w, by rw [upd_ne nb]; exact e2, r⟩
      | unb => exact True.intro
      | scr ns => exact r
  · by_cases z : i = j
    · subst z
      have z2 : i ≠ k := ne
      rw [List.getElem?_set_ne z2] at q2 q4
      rw [List.getElem?_set] at q3
      simp only [if_pos] at q3
      split at q3
      · cases q3
        cases e with
        | own kd3 ys' => exact sep k kd3 ys' (Ne.symm z2) q2 q4
        | well => exact nw ⟨k, q2, q4⟩
        | dat _ => exact pr
        | unb => exact pr
        | scr _ => exact pr
      · cases q3
    · rw [List.getElem?_set_ne z] at q1 q3
      by_cases z2 : i = k
      · subst z2
        rw [List.getElem?_set] at q4
        simp only [if_pos] at q4
        split at q4
        · cases q4
          exact sep j kd2 ys (Ne.symm z) q1 q3
        · cases q4
      · rw [List.getElem?_set_ne z2] at q2 q4
        exact ok.sep j k kd2 ys e b ne q1 q2 pr q3 q4
  · have nb : b ≠ a := fun z => by rw [z, n] at q; cases q
    rw [upd_ne nb]
    exact ok.sh _ _ q
  · by_cases z : i = j
    · subst z
      rw [List.getElem?_set] at q2
      simp only [if_pos] at q2
      split at q2
      · cases q2; exact n0
      · cases q2
    · rw [List.getElem?_set_ne z] at q1 q2
      exact ok.new j kd2 ys b q1 q2
  · refine ⟨ok.base.ss, fun b o q => ?_, ok.base.fr, fun b o q w => ?_, fun b w q => ?_, fun b q => ?_⟩
    · have nb : b ≠ a := fun z => by rw [z, n] at q; cases q
      rw [upd_ne nb]
      exact ok.sh _ _ q
    · rw [upd_ne (ne_of_none q n0)]
      exact ok.base.kp b o q w
    · obtain ⟨x, y, z, e, r⟩ := ok.base.wk b w q
      obtain ⟨x0, y0, z0, e0, _⟩ := q
      exact ⟨x, y, z, by rw [upd_ne (ne_of_none e0 n0)]; exact e, r⟩
    · have nb : b ≠ a := fun z => q (z ▸ n0)
      rw [upd_ne nb]
      exact ok.base.up b q
/-- as data -/
def Kd.dat : Kd → List D → Option D
  | .l, xs => some (.lst xs)
  | .o C _ _ ns, xs => some (.ins C ns xs)
  | .t _, _ => none
/-- a thing of one's own becomes data -/
theorem Ok.freeze (ok : Ok K B S H σ δ) {i : Nat} {kd : Kd} {xs : List D} {d : D} (h : δ[i]? = some (.own kd xs)) (hd : kd.dat xs = some d) : ∃ a vs, OwnAt K B S H σ δ i kd xs a vs ∧ Ext S (upd S a (kd.ho vs)) ∧ Has (upd S a (kd.ho vs)) d (.ref a) ∧ Ok K B (upd S a (kd.ho vs)) H σ (δ.set i (.dat d)) := by
  obtain ⟨a, vs, o⟩ := ok.ownAt h
  have ex : Ext S (upd S a (kd.ho vs)) := Ext.upd o.s0
  have hs : Has (upd S a (kd.ho vs)) d (.ref a) := by
    cases kd with
    | l => cases hd; exact ⟨a, vs, rfl, upd_same, o.has.mono ex⟩
    | o C a2 dx ns =>
      cases hd
      exact ⟨a, dx, vs, rfl, upd_same, by rw [← o.has.length]; exact o.fit.2, o.has.mono ex⟩
    | t ks => cases hd
  have sh : Ext (upd S a (kd.ho vs)) H := fun b u q => by
    by_cases z : b = a
    · subst z; rw [upd_same] at q; cases q; exact o.h0
    · rw [upd_ne z] at q; exact ok.sh _ _ q
  have hi : i < δ.length := (List.getElem?_eq_some_iff.mp h).1
  have oth : ∀ {b : Addr}, S b = none → b ≠ a → upd S a (kd.ho vs) b = none := fun q z => by rw [upd_ne z]; exact q
  refine ⟨a, vs, o, ex, hs, ⟨by rw [List.length_set, ok.len], fun j en q => ?_, fun j k kd2 ys en b ne q1 q2 pr q3 q4 => ?_, sh, fun j kd2 ys b q1 q2 => ?_, fun b w => ?_, ?_⟩⟩
  · by_cases z : i = j
    · subst z
      rw [List.getElem?_set_self hi] at q
      cases q
      exact ⟨_, o.sl, _, rfl, hs⟩
    · rw [List.getElem?_set_ne z] at q
      obtain ⟨v, hv, p⟩ := ok.ent j en q
      refine ⟨v, hv, ?_⟩
      cases en with
      | dat d =>
        obtain ⟨x, q1, q2⟩ := p
        exact ⟨x, q1, q2.mono ex⟩
      | own k2 ys =>
        obtain ⟨b, us, e1, sb, hb, p, ft⟩ := p
        exact ⟨b, us, e1, oth sb fun z2 => o.sep j k2 ys (Ne.symm z) q (by rw [hv, e1, z2]), hb, p.mono ex, ft⟩
      | well =>
        obtain ⟨b, e1, sb, p⟩ := p
        exact ⟨b, e1, oth sb fun z2 => o.nw ⟨j, q, by rw [hv, e1, z2]⟩, p⟩
      | unb => exact True.intro
      | scr ns => obtain ⟨a, q1, r⟩ := p; exact ⟨a, q1, ex.sqL r⟩
  · by_cases z : i = j
    · subst z; rw [List.getElem?_set_self hi] at q1; cases q1
    · rw [List.getElem?_set_ne z] at q1
      by_cases z2 : i = k
      · subst z2; rw [List.getElem?_set_self hi] at q2; cases q2; exact pr
      · rw [List.getElem?_set_ne z2] at q2
        exact ok.sep j k kd2 ys en b ne q1 q2 pr q3 q4
  · by_cases z : i = j
    · subst z; rw [List.getElem?_set_self hi] at q1; cases q1
    · rw [List.getElem?_set_ne z] at q1
      exact ok.new j kd2 ys b q1 q2
  · obtain ⟨j, w1, w2⟩ := w
    by_cases z : i = j
    · subst z; rw [List.getElem?_set_self hi] at w1; cases w1
    · rw [List.getElem?_set_ne z] at w1
      exact ok.neww b ⟨j, w1, w2⟩
  · refine ⟨ok.base.ss.trans ex, sh, fun b q1 q2 => ?_, ok.base.kp, ok.base.wk, ok.base.up⟩
    have z : b ≠ a := fun z => q1 (z ▸ o.n0)
    rw [upd_ne z]
    exact ok.base.fr b q1 q2
theorem wl_freeze {i : Nat} {k : Kd} {xs : List D} {d : D} (h : δ[i]? = some (.own k xs)) (a : Addr) : WL σ (δ.set i (.dat d)) a ↔ WL σ δ a := by
  have hi : i < δ.length := (List.getElem?_eq_some_iff.mp h).1
  constructor
  · rintro ⟨j, w1, w2⟩
    by_cases z : i = j
    · subst z; rw [List.getElem?_set_self hi] at w1; cases w1
    · rw [List.getElem?_set_ne z] at w1; exact ⟨j, w1, w2⟩
  · rintro ⟨j, w1, w2⟩
    by_cases z : i = j
    · subst z; rw [h] at w1; cases w1
    · exact ⟨j, by rw [List.getElem?_set_ne z]; exact w1, w2⟩
theorem Grow.imp {W W' : Addr → Prop} (g : Grow W S H S' H') (h : ∀ a, W a → W' a) : Grow W' S H S' H' := by
  refine ⟨g.ss, g.hs, g.fr, fun a o e n => g.kp a o e fun w => n (h a w), fun a _ x => ?_, g.up⟩
  by_cases w : W a
  · exact g.wk a w x
  · obtain ⟨p, q, r, e, z⟩ := x
    exact ⟨p, q, r, g.kp a _ e w, z⟩
end
end BA

set_option maxHeartbeats 4000000
namespace BA
open PySem L2
/-! universal readings -/
def UE (X : Cx) (e : Expr) : TE := fun σ H Q => ∃ t, PE X e t ∧ t σ H Q
def UT (X : Cx) (e : Expr) : TT := fun σ H Q => ∃ t, PT X e t ∧ t σ H Q
def UW (X : Cx) (e : Expr) : TT := fun σ H Q => ∃ t, PW X e t ∧ t σ H Q
def UA (X : Cx) (es : List Expr) : TA := fun σ H Q => ∃ t, PA X es t ∧ t σ H Q
def US (X : Cx) (st : Stmt) : TS := fun D σ H => ∃ t, PS X st t ∧ t D σ H
def USs (X : Cx) (st : List Stmt) : TS := fun D σ H => ∃ t, PSs X st t ∧ t D σ H
def UG (X : Cx) (tg : Expr) : TG := fun v σ H Q => ∃ t, PG X tg t ∧ t v σ H Q
def UGs (X : Cx) (tg : List Expr) : TGs := fun v σ H Q => ∃ t, PGs X tg t ∧ t v σ H Q
def UI (X : Cx) (tg iter : Expr) : TI := fun σ H R => ∃ t, PI X tg iter t ∧ t σ H R
def UO (X : Cx) (f : Value → Value → Sem Value) : R2 := fun x y H Q => ∃ r, OpR X f r ∧ r x y H Q
def UC (X : Cx) (f : Value) : List V → Hp → VK → Prop := fun xs H Q => ∃ r, CallR X f r ∧ r xs H Q
section
variable {X : Cx}
theorem pe_u (e : Expr) : PE X e (UE X e) := ⟨fun pins s σ H Q I ⟨_, h, q⟩ => h.run pins s σ H Q I q⟩
theorem pt_u (e : Expr) : PT X e (UT X e) := ⟨fun pins s σ H Q I ⟨_, h, q⟩ => h.run pins s σ H Q I q⟩
theorem pw_u (e : Expr) : PW X e (UW X e) := ⟨fun w pins s σ H Q I ⟨_, h, q⟩ => h.run w pins s σ H Q I q⟩
theorem pa_u (e : List Expr) : PA X e (UA X e) := ⟨fun p pins s σ H Q I ⟨_, h, q⟩ => h.run p pins s σ H Q I q⟩
theorem ps_u (e : Stmt) : PS X e (US X e) := ⟨fun pins s σ H Q I ⟨_, h, q⟩ => h.run pins s σ H Q I q⟩
theorem pss_u (e : List Stmt) : PSs X e (USs X e) := ⟨fun pins s σ H Q I ⟨_, h, q⟩ => h.run pins s σ H Q I q⟩
theorem pg_u (e : Expr) : PG X e (UG X e) := ⟨fun pins s σ H v u Q I r ⟨_, h, q⟩ => h.run pins s σ H v u Q I r q⟩
theorem pgs_u (e : List Expr) : PGs X e (UGs X e) := ⟨fun pins s σ H v u Q I r ⟨_, h, q⟩ => h.run pins s σ H v u Q I r q⟩
theorem pi_u (tg e : Expr) : PI X tg e (UI X tg e) := ⟨fun pins s σ H R I ⟨_, h, q⟩ => h.run pins s σ H R I q⟩
theorem op_u (f : Value → Value → Sem Value) : OpR X f (UO X f) := fun pins s σ H x y v u Q I rx ry ⟨_, h, q⟩ => h pins s σ H x y v u Q I rx ry q
theorem ca_u (f : Value) : CallR X f (UC X f) := fun pins s σ H xs us Q I r ⟨_, h, q⟩ => h pins s σ H xs us Q I r q
end

/-! what stands at an argument -/
def ArgOk (W : Addr → Prop) (S H : Hp) : Ent → V → Prop
  | .dat d, v => Has S d v
  | .well, v => ∃ a, v = .ref a ∧ W a ∧ S a = none ∧ Well H a
  | _, _ => False
def Args (W : Addr → Prop) (S H : Hp) : List Ent → List V → Prop
  | [], vs => vs = []
  | e :: es, vs => ∃ v r, vs = v :: r ∧ ArgOk W S H e v ∧ Args W S H es r
theorem ArgOk.grow {W : Addr → Prop} {S H S' H' : Hp} (g : Grow W S H S' H') : ∀ {e : Ent} {v : V}, ArgOk W S H e v → ArgOk W S' H' e v
  | .dat _, _, h => Has.mono g.ss h
  | .well, _, ⟨a, q, w, s0, h⟩ => by
    refine ⟨a, q, w, g.fr a ?_ s0, g.wk a w h⟩
    obtain ⟨_, _, _, e, _⟩ := h
    rw [e]
    exact fun z => nomatch z
  | .own _ _, _, h => h.elim
  | .unb, _, h => h.elim
  | .scr _, _, h => h.elim
theorem Args.grow {W : Addr → Prop} {S H S' H' : Hp} (g : Grow W S H S' H') : ∀ {es : List Ent} {vs : List V}, Args W S H es vs → Args W S' H' es vs
  | [], _, h => h
  | _ :: _, _, ⟨v, r, q, h1, h2⟩ => ⟨v, r, q, h1.grow g, Args.grow g h2⟩
theorem Args.length {W : Addr → Prop} {S H : Hp} : ∀ {es : List Ent} {vs : List V}, Args W S H es vs → es.length = vs.length
  | [], vs, h => by rw [show vs = [] from h]; rfl
  | _ :: _, _, ⟨v, r, q, _, h2⟩ => by rw [q, List.length_cons, List.length_cons, Args.length h2]
theorem Args.get {W : Addr → Prop} {S H : Hp} : ∀ {es : List Ent} {vs : List V} {i : Nat} {e : Ent}, Args W S H es vs → es[i]? = some e → ∃ v, vs[i]? = some v ∧ ArgOk W S H e v
  | [], _, _, _, _, e => by cases e
  | _ :: _, _, 0, _, ⟨v, r, q, h1, _⟩, e => by
    rw [q]
    cases e
    exact ⟨v, rfl, h1⟩
  | _ :: _, _, i + 1, _, ⟨v, r, q, _, h2⟩, e => by
    rw [q]
    exact Args.get (i := i) h2 e
theorem Args.dats {W : Addr → Prop} {S H : Hp} : ∀ {ds : List D} {vs : List V}, Args W S H (ds.map Ent.dat) vs → HasL S ds vs
  | [], _, h => h
  | _ :: _, _, ⟨v, r, q, h1, h2⟩ => ⟨v, r, q, h1, Args.dats h2⟩

/-! the judgements -/
/-- an expression over an environment of data: it comes to data of which R holds -/
def Ev (X : Cx) (B : Base) (e : Expr) (δ : List Ent) (R : D → Prop) : Prop :=
  ∀ S H σ, Ok X.K B S H σ δ → ∀ Q : VK, (∀ v d S' H', R d → Grow (WL σ δ) S H S' H' → Has S' d v → Q v H') → UE X e σ H Q
def Et (X : Cx) (B : Base) (e : Expr) (δ : List Ent) (R : Bool → Prop) : Prop :=
  ∀ S H σ, Ok X.K B S H σ δ → ∀ Q : Bool → Hp → Prop, (∀ b S' H', R b → Grow (WL σ δ) S H S' H' → Q b H') → UT X e σ H Q
def Ew (X : Cx) (B : Base) (e : Expr) (δ : List Ent) (R : Bool → Prop) : Prop :=
  ∀ S H σ, Ok X.K B S H σ δ → ∀ Q : Bool → Hp → Prop, (∀ b S' H', R b → Grow (WL σ δ) S H S' H' → Q b H') → UW X e σ H Q
def Ea (X : Cx) (B : Base) (es : List Expr) (δ : List Ent) (R : List Ent → Prop) : Prop :=
  ∀ S H σ, Ok X.K B S H σ δ → ∀ Q : List V → Hp → Prop, (∀ vs as S' H', R as → Grow (WL σ δ) S H S' H' → Args (WL σ δ) S' H' as vs → Q vs H') → UA X es σ H Q
structure Post where
  n : List Ent → Prop
  r : D → Prop
  b : List Ent → Prop := fun _ => False
  c : List Ent → Prop := fun _ => False
structure Meets (K : PySem.W.Frag) (B : Base) (S0 : Hp) (E : Ends) (p : Post) : Prop where
  n : ∀ S H σ δ, Ext S0 S → Ok K B S H σ δ → p.n δ → E.nx σ H
  r : ∀ S H v d, Grow B.W B.S0 B.H0 S H → Has S d v → p.r d → E.rt v H
  b : ∀ S H σ δ, Ext S0 S → Ok K B S H σ δ → p.b δ → E.bk σ H
  c : ∀ S H σ δ, Ext S0 S → Ok K B S H σ δ → p.c δ → E.ct σ H
theorem Meets.up {K : PySem.W.Frag} {B : Base} {S0 S1 : Hp} {E : Ends} {p : Post} (m : Meets K B S0 E p) (x : Ext S0 S1) : Meets K B S1 E p :=
  ⟨fun S H σ δ y => m.n S H σ δ (x.trans y), m.r, fun S H σ δ y => m.b S H σ δ (x.trans y), fun S H σ δ y => m.c S H σ δ (x.trans y)⟩
def Ex (X : Cx) (B : Base) (st : Stmt) (δ : List Ent) (p : Post) : Prop := ∀ S H σ, Ok X.K B S H σ δ → ∀ E : Ends, Meets X.K B S E p → US X st E σ H
def Exs (X : Cx) (B : Base) (st : List Stmt) (δ : List Ent) (p : Post) : Prop := ∀ S H σ, Ok X.K B S H σ δ → ∀ E : Ends, Meets X.K B S E p → USs X st E σ H
/-- an assignment to a target -/
def Eg (X : Cx) (B : Base) (tg : Expr) (d : D) (δ : List Ent) (N : List Ent → Prop) : Prop :=
  ∀ S H σ v, Ok X.K B S H σ δ → Has S d v → ∀ Q : L2.St → Hp → Prop, (∀ σ' S' H' δ', N δ' → Ext S S' → Ok X.K B S' H' σ' δ' → Q σ' H') → UG X tg v σ H Q
def Egs (X : Cx) (B : Base) (tg : List Expr) (ds : List D) (δ : List Ent) (N : List Ent → Prop) : Prop :=
  ∀ S H σ vs, Ok X.K B S H σ δ → HasL S ds vs → ∀ Q : L2.St → Hp → Prop, (∀ σ' S' H' δ', N δ' → Ext S S' → Ok X.K B S' H' σ' δ' → Q σ' H') → UGs X tg vs σ H Q
/-- an operation on data -/
def Bo (X : Cx) (B : Base) (f : Value → Value → Sem Value) (x y : D) (δ : List Ent) (R : D → Prop) : Prop :=
  ∀ S H σ v u, Ok X.K B S H σ δ → Has S x v → Has S y u → ∀ Q : VK, (∀ v d S' H', R d → Grow (WL σ δ) S H S' H' → Has S' d v → Q v H') → UO X f v u H Q
/-- a built-in called on data -/
def Bc (X : Cx) (B : Base) (f : Value) (as : List Ent) (δ : List Ent) (R : D → Prop) : Prop :=
  ∀ S H σ vs, Ok X.K B S H σ δ → Args (WL σ δ) S H as vs → ∀ Q : VK, (∀ v d S' H', R d → Grow (WL σ δ) S H S' H' → Has S' d v → Q v H') → UC X f vs H Q

section
variable {X : Cx} {B : Base} {δ : List Ent} {R R' : D → Prop} {e a b c : Expr} {es : List Expr} {pos : Pos} {p : Post}
theorem Ev.mono (h : Ev X B e δ R) (r : ∀ d, R d → R' d) : Ev X B e δ R' := fun S H σ ok Q q => h S H σ ok Q fun v d S' H' z => q v d S' H' (r d z)

/-! names and constants -/
theorem ev_var (i : Nat) {x : Str} {d : D} (hd : δ[i]? = some (.dat d)) (h : R d) (hN : X.N[i]? = some x := by rfl) (hv : Vis X.env.scope x := by first | exact Or.inl rfl | exact Or.inr (Or.inl rfl) | exact Or.inr (Or.inr rfl))
    (h1 : (x == ("__debug__" : Str)) = false := by decide) (h2 : (x == ("__classdict__" : Str)) = false := by decide) : Ev X B (.Name x pos) δ R := fun S H σ ok Q q => by
  obtain ⟨v, e, r⟩ := ok.slot hd
  exact ⟨_, pe_var hN hv h1 h2, v, e, q v d S H h ok.refl r⟩
theorem ev_int {i : Int} {j} (h : R (.int i)) : Ev X B (.Constant (.int i) j pos) δ R := fun S H σ ok Q q => ⟨_, pe_int, q _ _ S H h ok.refl rfl⟩
theorem ev_bl {i : Bool} {j} (h : R (.bl i)) : Ev X B (.Constant (.bool i) j pos) δ R := fun S H σ ok Q q => ⟨_, pe_bl, q _ _ S H h ok.refl rfl⟩
theorem ev_non {j} (h : R .non) : Ev X B (.Constant .none j pos) δ R := fun S H σ ok Q q => ⟨_, pe_non, q _ _ S H h ok.refl rfl⟩
theorem ev_str {x : Str} {j} (h : R (.str x)) : Ev X B (.Constant (.str x) j pos) δ R := fun S H σ ok Q q => ⟨_, pe_str, q _ _ S H h ok.refl rfl⟩
/-- a module's number, a module's text -/
theorem ev_gint {x : Str} {i : Int} (hm : ∃ t, X.mg x = some (.int i t)) (h : R (.int i)) (hg : Gl X x := by rfl) (hdb : (x == ("__debug__" : Str)) = false := by decide) : Ev X B (.Name x pos) δ R := fun S H σ ok Q q => by
  obtain ⟨t, e⟩ := hm
  exact ⟨_, pe_glob (v := .int i) hg e ⟨t, rfl⟩ hdb, q _ (.int i) S H h ok.refl rfl⟩
theorem ev_gstr {x : Str} {i : Str} (hm : ∃ t, X.mg x = some (.str i t)) (h : R (.str i)) (hg : Gl X x := by rfl) (hdb : (x == ("__debug__" : Str)) = false := by decide) : Ev X B (.Name x pos) δ R := fun S H σ ok Q q => by
  obtain ⟨t, e⟩ := hm
  exact ⟨_, pe_glob (v := .str i) hg e ⟨t, rfl⟩ hdb, q _ (.str i) S H h ok.refl rfl⟩

/-! operators -/
theorem ev_bin {op : Operator} (h : Ev X B a δ fun x => Ev X B b δ fun y => Bo X B (binaryOp op) x y δ R) : Ev X B (.BinOp a op b pos) δ R := fun S H σ ok Q q =>
  ⟨_, pe_op (op_u _) (pe_u a) (pe_u b), h S H σ ok _ fun v x S1 H1 h1 g1 r1 => h1 S1 H1 σ (ok.grow g1) _ fun u y S2 H2 h2 g2 r2 =>
    h2 S2 H2 σ v u ((ok.grow g1).grow g2) (r1.mono g2.ss) r2 _ fun w d S3 H3 h3 g3 r3 => q w d S3 H3 h3 ((g1.trans g2).trans g3) r3⟩
theorem ev_cmp {op : CmpOp} (hm : behindInMarks op b = false) (h : Ev X B a δ fun x => Ev X B b δ fun y => Bo X B (compareOp op) x y δ R) : Ev X B (.Compare a [op] [b] pos) δ R := fun S H σ ok Q q =>
  ⟨_, pe_cmpR (op_u _) (pe_u a) (pe_u b) hm, h S H σ ok _ fun v x S1 H1 h1 g1 r1 => h1 S1 H1 σ (ok.grow g1) _ fun u y S2 H2 h2 g2 r2 =>
    h2 S2 H2 σ v u ((ok.grow g1).grow g2) (r1.mono g2.ss) r2 _ fun w d S3 H3 h3 g3 r3 => q w d S3 H3 h3 ((g1.trans g2).trans g3) r3⟩
/-- the answer is a truth value -/
def Is (R : Bool → Prop) : D → Prop
  | .bl k => R k
  | _ => False
theorem Is.out {R : Bool → Prop} : ∀ {d : D}, Is R d → ∃ k, d = .bl k ∧ R k
  | .bl k, h => ⟨k, rfl, h⟩
variable {T : Bool → Prop}
theorem et_cmp {op : CmpOp} (hm : behindInMarks op b = false) (h : Ev X B a δ fun x => Ev X B b δ fun y => Bo X B (compareOp op) x y δ (Is T)) : Et X B (.Compare a [op] [b] pos) δ T := fun S H σ ok Q q =>
  ⟨_, pt_cmpR (op_u _) (pe_u a) (pe_u b) hm, h S H σ ok _ fun v x S1 H1 h1 g1 r1 => h1 S1 H1 σ (ok.grow g1) _ fun u y S2 H2 h2 g2 r2 =>
    h2 S2 H2 σ v u ((ok.grow g1).grow g2) (r1.mono g2.ss) r2 _ fun w d S3 H3 h3 g3 r3 => by
      obtain ⟨k, rfl, t⟩ := h3.out
      exact ⟨k, r3, q k S3 H3 t ((g1.trans g2).trans g3)⟩⟩
/-- a < b < c -/
theorem et_chain {op op' : CmpOp} (hm : lastMarks [op, op'] [b, c] = false) (h : Ev X B a δ fun x => Ev X B b δ fun y => Bo X B (compareOp op) x y δ (Is fun k => if k = true then Ev X B c δ fun z => Bo X B (compareOp op') y z δ (Is T) else T false)) :
    Et X B (.Compare a [op, op'] [b, c] pos) δ T := fun S H σ ok Q q =>
  ⟨_, pt_chain (op_u _) (op_u _) (pe_u a) (pe_u b) (pe_u c) hm, h S H σ ok _ fun v x S1 H1 h1 g1 r1 => h1 S1 H1 σ (ok.grow g1) _ fun u y S2 H2 h2 g2 r2 =>
    h2 S2 H2 σ v u ((ok.grow g1).grow g2) (r1.mono g2.ss) r2 _ fun w d S3 H3 h3 g3 r3 => by
      obtain ⟨k, rfl, t⟩ := h3.out
      refine ⟨k, r3, ?_⟩
      have ok3 := ((ok.grow g1).grow g2).grow g3
      cases k with
      | false => exact ⟨false, rfl, q false S3 H3 t ((g1.trans g2).trans g3)⟩
      | true =>
        refine t S3 H3 σ ok3 _ fun w2 z S4 H4 h4 g4 r4 => ?_
        refine h4 S4 H4 σ u w2 (ok3.grow g4) (r2.mono (g3.ss.trans g4.ss)) r4 _ fun w3 d3 S5 H5 h5 g5 r5 => ?_
        obtain ⟨k, rfl, t⟩ := h5.out
        exact ⟨k, r5, q k S5 H5 t ((((g1.trans g2).trans g3).trans g4).trans g5)⟩⟩
theorem et_ev (he : ∀ whole, isTrue e X.env whole = (do let v ← whole; standAt e.pos; holding [v] (truthy v)) := by intro _; rfl) (h : Ev X B e δ (Is T)) : Et X B e δ T := fun S H σ ok Q q =>
  ⟨_, pt_val (pe_u e) he, h S H σ ok _ fun v d S1 H1 h1 g1 r1 => by
    obtain ⟨k, rfl, t⟩ := h1.out
    exact ⟨k, r1, q k S1 H1 t g1⟩⟩
theorem et_not (h : Et X B a δ fun k => T (!k)) : Et X B (.UnaryOp .Not a pos) δ T := fun S H σ ok Q q =>
  ⟨_, pt_not (pt_u a), h S H σ ok _ fun k S1 H1 h1 g1 => q _ S1 H1 h1 g1⟩
theorem et_w (h : Ew X B e δ T) : Et X B e δ T := fun S H σ ok Q q => by
  obtain ⟨t, p, z⟩ := h S H σ ok Q q
  exact ⟨t, p.pt, z⟩
theorem ew_and1 (h : Et X B a δ T) : Ew X B (.BoolOp .And [a] pos) δ T := fun S H σ ok Q q => ⟨_, pw_and1 (pt_u a), h S H σ ok Q q⟩
theorem ew_or1 (h : Et X B a δ T) : Ew X B (.BoolOp .Or [a] pos) δ T := fun S H σ ok Q q => ⟨_, pw_or1 (pt_u a), h S H σ ok Q q⟩
theorem ew_and (h : Et X B a δ fun k => if k = true then Ew X B (.BoolOp .And (b :: es) pos) δ T else T false) : Ew X B (.BoolOp .And (a :: b :: es) pos) δ T := fun S H σ ok Q q =>
  ⟨_, pw_and (pt_u a) (pw_u _), h S H σ ok _ fun k S1 H1 h1 g1 => by
    cases k with
    | false => exact q false S1 H1 h1 g1
    | true => exact h1 S1 H1 σ (ok.grow g1) _ fun k2 S2 H2 h2 g2 => q k2 S2 H2 h2 (g1.trans g2)⟩
theorem ew_or (h : Et X B a δ fun k => if k = true then T true else Ew X B (.BoolOp .Or (b :: es) pos) δ T) : Ew X B (.BoolOp .Or (a :: b :: es) pos) δ T := fun S H σ ok Q q =>
  ⟨_, pw_or (pt_u a) (pw_u _), h S H σ ok _ fun k S1 H1 h1 g1 => by
    cases k with
    | true => exact q true S1 H1 h1 g1
    | false => exact h1 S1 H1 σ (ok.grow g1) _ fun k2 S2 H2 h2 g2 => q k2 S2 H2 h2 (g1.trans g2)⟩
/-! and, or, not as values -/
theorem ev_one {op} (h : Ev X B a δ R) : Ev X B (.BoolOp op [a] pos) δ R := fun S H σ ok Q q => ⟨_, pe_one (pe_u a), h S H σ ok Q q⟩
theorem ev_and (h : Ev X B a δ (Is fun k => if k = true then Ev X B (.BoolOp .And (b :: es) pos) δ R else R (.bl false))) : Ev X B (.BoolOp .And (a :: b :: es) pos) δ R := fun S H σ ok Q q =>
  ⟨_, pe_and (pe_u a) (pe_u _), h S H σ ok _ fun v d S1 H1 h1 g1 r1 => by
    obtain ⟨k, rfl, t⟩ := h1.out
    refine ⟨k, r1, ?_⟩
    cases k with
    | false => exact q _ _ S1 H1 t g1 rfl
    | true => exact t S1 H1 σ (ok.grow g1) _ fun v2 d2 S2 H2 h2 g2 r2 => q v2 d2 S2 H2 h2 (g1.trans g2) r2⟩
theorem ev_or (h : Ev X B a δ (Is fun k => if k = true then R (.bl true) else Ev X B (.BoolOp .Or (b :: es) pos) δ R)) : Ev X B (.BoolOp .Or (a :: b :: es) pos) δ R := fun S H σ ok Q q =>
  ⟨_, pe_or (pe_u a) (pe_u _), h S H σ ok _ fun v d S1 H1 h1 g1 r1 => by
    obtain ⟨k, rfl, t⟩ := h1.out
    refine ⟨k, r1, ?_⟩
    cases k with
    | true => exact q _ _ S1 H1 t g1 rfl
    | false => exact t S1 H1 σ (ok.grow g1) _ fun v2 d2 S2 H2 h2 g2 r2 => q v2 d2 S2 H2 h2 (g1.trans g2) r2⟩
theorem ev_not (h : Ev X B a δ (Is fun k => R (.bl !k))) : Ev X B (.UnaryOp .Not a pos) δ R := fun S H σ ok Q q =>
  ⟨_, pe_not (pe_u a), h S H σ ok _ fun v d S1 H1 h1 g1 r1 => by
    obtain ⟨k, rfl, t⟩ := h1.out
    exact ⟨k, r1, q _ _ S1 H1 t g1 rfl⟩⟩
theorem ev_ife (h : Et X B c δ fun k => if k = true then Ev X B a δ R else Ev X B b δ R) : Ev X B (.IfExp c a b pos) δ R := fun S H σ ok Q q =>
  ⟨_, pe_ifExp (pt_u c) (pe_u a) (pe_u b), h S H σ ok _ fun k S1 H1 h1 g1 => by
    cases k with
    | true => exact h1 S1 H1 σ (ok.grow g1) _ fun v2 d2 S2 H2 h2 g2 r2 => q v2 d2 S2 H2 h2 (g1.trans g2) r2
    | false => exact h1 S1 H1 σ (ok.grow g1) _ fun v2 d2 S2 H2 h2 g2 r2 => q v2 d2 S2 H2 h2 (g1.trans g2) r2⟩

/-! argument lists, displays -/
variable {RA : List Ent → Prop}
theorem ea_nil (h : RA []) : Ea X B [] δ RA := fun S H σ ok Q q => ⟨_, pa_nil, q [] [] S H h ok.refl rfl⟩
theorem ea_cons (h : Ev X B e δ fun d => Ea X B es δ fun as => RA (.dat d :: as)) (hs : starEach (e :: es) X.env = (false, eval e X.env) :: starEach es X.env := by rfl) : Ea X B (e :: es) δ RA := fun S H σ ok Q q =>
  ⟨_, pa_cons (pe_u e) (pa_u es) hs, h S H σ ok _ fun v d S1 H1 h1 g1 r1 => h1 S1 H1 σ (ok.grow g1) _ fun vs as S2 H2 h2 g2 r2 =>
    q _ _ S2 H2 h2 (g1.trans g2) ⟨v, vs, rfl, r1.mono g2.ss, r2⟩⟩
/-- the well handed on -/
theorem ea_well (i : Nat) {x : Str} (hd : δ[i]? = some .well) (h : Ea X B es δ fun as => RA (.well :: as)) (hN : X.N[i]? = some x := by rfl) (hv : Vis X.env.scope x := by first | exact Or.inl rfl | exact Or.inr (Or.inl rfl) | exact Or.inr (Or.inr rfl))
    (h1 : (x == ("__debug__" : Str)) = false := by decide) (h2 : (x == ("__classdict__" : Str)) = false := by decide) (hs : starEach (.Name x pos :: es) X.env = (false, eval (.Name x pos) X.env) :: starEach es X.env := by rfl) :
    Ea X B (.Name x pos :: es) δ RA := fun S H σ ok Q q => by
  obtain ⟨v, e, w, rfl, s0, hw⟩ := ok.ent i _ hd
  have wl : WL σ δ w := ⟨i, hd, e⟩
  refine ⟨_, pa_cons (pe_var (i := i) hN hv h1 h2) (pa_u es) hs, .ref w, e, h S H σ ok _ fun vs as S2 H2 h2 g2 r2 => ?_⟩
  exact q _ _ S2 H2 h2 g2 ⟨_, vs, rfl, ArgOk.grow (e := .well) g2 ⟨w, rfl, wl, s0, hw⟩, r2⟩
def Dats (R : List D → Prop) : List Ent → Prop := fun as => ∃ ds, as = ds.map Ent.dat ∧ R ds
/-- a list of expressions that come to data -/
def El (X : Cx) (B : Base) : List Expr → List Ent → (List D → Prop) → Prop
  | [], _, R => R []
  | e :: es, δ, R => Ev X B e δ fun d => El X B es δ fun ds => R (d :: ds)
theorem El.ea : ∀ {es : List Expr} {R : List D → Prop} (hs : ∀ e es', (e :: es') <:+ es → starEach (e :: es') X.env = (false, eval e X.env) :: starEach es' X.env), El X B es δ R → Ea X B es δ (Dats R)
  | [], _, _, h => ea_nil ⟨[], rfl, h⟩
  | e :: es, R, hs, h => ea_cons (Ev.mono h fun d z => (fun S H σ ok Q q => El.ea (R := fun ds => R (d :: ds)) (fun e' es' s => hs e' es' (s.trans (List.suffix_cons _ _))) z S H σ ok Q fun vs as S' H' ⟨ds, e, r⟩ => q vs as S' H' ⟨d :: ds, by rw [e]; rfl, r⟩))
      (hs e es (List.suffix_refl _))
theorem ev_tup {k} (h : Ea X B es δ (Dats fun ds => ds.length ≤ sizeLine ∧ R (.tup ds))) : Ev X B (.Tuple es k pos) δ R := fun S H σ ok Q q =>
  ⟨_, pe_tupF (pa_u es), h S H σ ok _ fun vs as S1 H1 ⟨ds, e, z, r⟩ g1 ra => by
    subst e
    have hl := ra.dats
    refine ⟨by rw [← hl.length]; exact z, fun p o np od => ?_⟩
    have gn := (ok.grow g1).gnew (o := .frz o (.tup vs)) np
    exact q _ _ _ _ r (g1.trans gn) ⟨p, vs, rfl, ⟨o, upd_same, od⟩, hl.mono gn.ss⟩⟩
theorem ev_lst (h : Ea X B es δ (Dats fun ds => ds.length ≤ sizeLine ∧ R (.lst ds))) : Ev X B (.List es pos) δ R := fun S H σ ok Q q =>
  ⟨_, pe_lst (pa_u es), h S H σ ok _ fun vs as S1 H1 ⟨ds, e, z, r⟩ g1 ra => by
    subst e
    have hl := ra.dats
    refine ⟨by rw [← hl.length]; exact z, fun p np => ?_⟩
    have gn := (ok.grow g1).gnew (o := .lst vs) np
    exact q _ _ _ _ r (g1.trans gn) ⟨p, vs, rfl, upd_same, hl.mono gn.ss⟩⟩
theorem dats0 {R : List D → Prop} (h : R []) : Dats R [] := ⟨[], rfl, h⟩
theorem dats1 {R : List D → Prop} {a : D} (h : R [a]) : Dats R [.dat a] := ⟨[a], rfl, h⟩
theorem dats2 {R : List D → Prop} {a b : D} (h : R [a, b]) : Dats R [.dat a, .dat b] := ⟨[a, b], rfl, h⟩
theorem dats3 {R : List D → Prop} {a b c : D} (h : R [a, b, c]) : Dats R [.dat a, .dat b, .dat c] := ⟨[a, b, c], rfl, h⟩
theorem dats4 {R : List D → Prop} {a b c d : D} (h : R [a, b, c, d]) : Dats R [.dat a, .dat b, .dat c, .dat d] := ⟨[a, b, c, d], rfl, h⟩

/-! statements -/
variable {st : Stmt} {sts : List Stmt}
theorem exs_nil (h : p.n δ) : Exs X B [] δ p := fun S H σ ok E m => ⟨_, pss_nil, m.n S H σ δ (Ext.refl S) ok h⟩
theorem exs_cons (h : Ex X B st δ { p with n := fun δ' => Exs X B sts δ' p }) : Exs X B (st :: sts) δ p := fun S H σ ok E m =>
  ⟨_, pss_cons (ps_u st) (pss_u sts), h S H σ ok _ ⟨fun S1 H1 σ1 δ1 x1 ok1 h1 => h1 S1 H1 σ1 ok1 E (m.up x1), m.r, m.b, m.c⟩⟩
theorem exs_never (h : False) : Exs X B sts δ p := h.elim
theorem ex_pass (h : p.n δ) : Ex X B (.Pass pos) δ p := fun S H σ ok E m => ⟨_, ps_pass, m.n S H σ δ (Ext.refl S) ok h⟩
theorem ex_if {s1 s2 : List Stmt} (h : Et X B c δ fun k => if k = true then Exs X B s1 δ p else Exs X B s2 δ p) : Ex X B (.If c s1 s2 pos) δ p := fun S H σ ok E m =>
  ⟨_, ps_if (pt_u c) (pss_u s1) (pss_u s2), h S H σ ok _ fun k S1 H1 h1 g1 => by
    cases k with
    | true => exact h1 S1 H1 σ (ok.grow g1) E (m.up g1.ss)
    | false => exact h1 S1 H1 σ (ok.grow g1) E (m.up g1.ss)⟩
theorem ex_ret (h : Ev X B e δ p.r) : Ex X B (.Return (some e) pos) δ p := fun S H σ ok E m =>
  ⟨_, ps_ret (pe_u e), h S H σ ok _ fun v d S1 H1 h1 g1 r1 => m.r S1 H1 v d (ok.grow g1).base r1 h1⟩
theorem ex_retN (h : p.r .non) : Ex X B (.Return none pos) δ p := fun S H σ ok E m => ⟨_, ps_retN, m.r S H _ .non ok.base rfl h⟩
theorem ex_expr (h : Ev X B e δ fun _ => p.n δ) (hs : swapsWith e none pos.line X.env = pure false := by rfl) : Ex X B (.Expr e pos) δ p := fun S H σ ok E m =>
  ⟨_, ps_expr (pe_u e) hs, h S H σ ok _ fun v d S1 H1 h1 g1 r1 => m.n S1 H1 σ δ g1.ss (ok.grow g1) h1⟩
/-- x = e -/
theorem ex_set (i : Nat) {x : Str} {pos' : Pos} (hN : X.N.Nodup) (h : Ev X B e δ fun d => p.n (δ.set i (.dat d))) (hi : X.N[i]? = some x := by rfl) (hx : Loc X.env.scope x := by first | exact .inl rfl | exact .inr rfl)
    (hs : swapsWith e (some (.Name x pos')) pos.line X.env = pure false := by rfl) (hf : X.fn x = true ∨ X.env.scope.names.lookup x = some .local := by first | exact .inl rfl | exact .inr rfl | assumption) : Ex X B (.Assign [.Name x pos'] e pos) δ p := fun S H σ ok E m =>
  ⟨_, ps_set (i := i) hN hi hx (pe_u e) hs hf, h S H σ ok _ fun v d S1 H1 h1 g1 r1 => m.n _ _ _ _ g1.ss ((ok.grow g1).put r1) h1⟩
/-- targets -/
theorem eg_name (i : Nat) {x : Str} {d : D} {N : List Ent → Prop} (hN : X.N.Nodup) (h : N (δ.set i (.dat d))) (hi : X.N[i]? = some x := by rfl) (hx : Loc X.env.scope x := by first | exact .inl rfl | exact .inr rfl)
    (hf : X.fn x = true ∨ X.env.scope.names.lookup x = some .local := by first | exact .inl rfl | exact .inr rfl | assumption) : Eg X B (.Name x pos) d δ N := fun S H σ v ok r Q q =>
  ⟨_, pg_name (i := i) hN hi hx hf, q _ _ _ _ h (Ext.refl S) (ok.put r)⟩
theorem egs_nil {N : List Ent → Prop} (h : N δ) : Egs X B [] [] δ N := fun S H σ v ok r Q q => ⟨_, pgs_nil, r, q _ _ _ _ h (Ext.refl S) ok⟩
theorem egs_cons {d : D} {ds : List D} {N : List Ent → Prop} (h : Eg X B e d δ fun δ' => Egs X B es ds δ' N)
    (hs : (assignEach (e :: es) X.env).map (·.2) = assign e X.env :: (assignEach es X.env).map (·.2) := by rfl) : Egs X B (e :: es) (d :: ds) δ N := fun S H σ vs ok r Q q => by
  obtain ⟨v, vr, rfl, r1, r2⟩ := r
  exact ⟨_, pgs_cons (pg_u e) (pgs_u es) hs, v, vr, rfl, h S H σ v ok r1 _ fun σ1 S1 H1 δ1 h1 x1 ok1 => h1 S1 H1 σ1 vr ok1 (r2.mono x1) _ fun σ2 S2 H2 δ2 h2 x2 ok2 => q _ _ _ _ h2 (x1.trans x2) ok2⟩
theorem eg_tup {ds : List D} {k : Nat} {N : List Ent → Prop} (hc : X.calm = true) (h : Egs X B es ds δ N) (hn : (assignEach es X.env).length = ds.length := by rfl) (hst : (assignEach es X.env).findIdx? (·.1) = none := by rfl) :
    Eg X B (.Tuple es k pos) (.tup ds) δ N := fun S H σ v ok r Q q => by
  obtain ⟨a, vs, rfl, ⟨o, ha, hd⟩, hl⟩ := r
  exact ⟨_, pg_tup hc (pgs_u es) hn hst, a, vs, rfl, TupF.sq ⟨o, ok.sh _ _ ha, hd⟩, hl.length.symm, h S H σ vs ok hl Q q⟩
theorem eg_tpw {ds : List D} {k : Nat} {N : List Ent → Prop} (hc : X.calm = true) (h : Egs X B es ds δ N) (hn : (assignEach es X.env).length = ds.length := by rfl) (hst : (assignEach es X.env).findIdx? (·.1) = none := by rfl) :
    Eg X B (.Tuple es k pos) (.tpw ds) δ N := fun S H σ v ok r Q q => by
  obtain ⟨a, vs, rfl, ha, hl⟩ := r
  exact ⟨_, pg_tup hc (pgs_u es) hn hst, a, vs, rfl, SqT.of (ok.sh _ _ ha), hl.length.symm, h S H σ vs ok hl Q q⟩
theorem ex_asg {tg : Expr} (h : Ev X B e δ fun d => Eg X B tg d δ p.n) (hs : swapsWithSole [tg] e pos.line X.env = pure false := by rfl) (hw : swappedStores [tg] e X.env = pure none := by rfl)
    (h1 : (assignEach [tg] X.env).map (·.2) = [assign tg X.env] := by rfl) : Ex X B (.Assign [tg] e pos) δ p := fun S H σ ok E m =>
  ⟨_, ps_asg (pe_u e) (pg_u tg) hs hw h1, h S H σ ok _ fun v d S1 H1 h1 g1 r1 => h1 S1 H1 σ v (ok.grow g1) r1 _ fun σ2 S2 H2 δ2 h2 x2 ok2 => m.n _ _ _ _ (g1.ss.trans x2) ok2 h2⟩
theorem ex_while {body : List Stmt} (I : Nat → List Ent → Prop) (m : Nat) (h0 : I m δ) (hp : PassesOwn (model X.prog X.w) X.A X.env X.xe)
    (h : ∀ m δ', I m δ' → Et X B c δ' fun k => if k = true then Exs X B body δ' ⟨fun δ2 => ∃ m', m' < m ∧ I m' δ2, p.r, p.n, fun δ2 => ∃ m', m' < m ∧ I m' δ2⟩ else p.n δ') : Ex X B (.While c body [] pos) δ p := fun S H σ ok E mt =>
  ⟨_, ps_while hp (pt_u c) (pss_u body), fun m σ' H' => ∃ S' δ', Ext S S' ∧ Ok X.K B S' H' σ' δ' ∧ I m δ', ⟨m, S, δ, Ext.refl S, ok, h0⟩, fun m σ' H' ⟨S', δ', x, ok, i⟩ => by
    refine h m δ' i S' H' σ' ok _ fun k S1 H1 h1 g1 => ?_
    cases k with
    | false => exact mt.n _ _ _ _ (x.trans g1.ss) (ok.grow g1) h1
    | true =>
      refine ⟨fun σ2 H2 => ∃ m', m' < m ∧ ∃ S2 δ2, Ext S S2 ∧ Ok X.K B S2 H2 σ2 δ2 ∧ I m' δ2, fun σ' H' z => z, h1 S1 H1 σ' (ok.grow g1) _ ⟨fun S2 H2 σ2 δ2 x2 ok2 ⟨m', l, i'⟩ => ⟨m', l, S2, δ2, (x.trans g1.ss).trans x2, ok2, i'⟩, mt.r,
        fun S2 H2 σ2 δ2 x2 ok2 z => mt.n _ _ _ _ ((x.trans g1.ss).trans x2) ok2 z, fun S2 H2 σ2 δ2 x2 ok2 ⟨m', l, i'⟩ => ⟨m', l, S2, δ2, (x.trans g1.ss).trans x2, ok2, i'⟩⟩⟩⟩

/-! what a loop walks -/
/-- an iterator that yields these, one after the other, whatever happens to what is not stable -/
structure Drawn (K : PySem.W.Frag) (J : It) (ds : List D) (S : Hp) : Prop where
  go : ∀ (i : Nat) (d : D) (S' H' : Hp), Ext S S' → Ext S' H' → ds[i]? = some d → J.go i H'
  yld : ∀ (i : Nat) (d : D) (S' H' H'' : Hp) (x : V) (W : Addr → Prop), Ext S S' → Ext S' H' → (∀ a, W a → H' a ≠ none) → ds[i]? = some d → J.yld i H' x H'' → ∃ S'', Grow W S' H' S'' H'' ∧ Has S'' d x
  stop : ∀ (S' H' : Hp), Ext S S' → Ext S' H' → J.stop ds.length H'
def Ei (X : Cx) (B : Base) (tg iter : Expr) (δ : List Ent) (R : List D → Prop) : Prop :=
  ∀ S H σ, Ok X.K B S H σ δ → ∀ Q : It → Hp → Prop, (∀ ds J S' H', R ds → Grow (WL σ δ) S H S' H' → Drawn X.K J ds S' → Q J H') → UI X tg iter σ H Q
theorem ex_for {tg iter : Expr} {body : List Stmt} (hp : PassesOwn (model X.prog X.w) X.A X.env X.xe) (hc : X.calm = true)
    (h : Ei X B tg iter δ fun ds => ∃ I : Nat → List Ent → Prop, I 0 δ ∧ (∀ i d δ', ds[i]? = some d → I i δ' → Eg X B tg d δ' fun δ2 => Exs X B body δ2 ⟨I (i + 1), p.r, p.n, I (i + 1)⟩) ∧ ∀ δ', I ds.length δ' → p.n δ')
    (hs : ∀ x, foldedSetIterable iter X.env x = pure x := by intro _; rfl) : Ex X B (.For tg iter body [] pos) δ p := fun S H σ ok E mt =>
  ⟨_, ps_for hp hc (pi_u tg iter) (pg_u tg) (pss_u body) hs, h S H σ ok _ fun ds J S1 H1 ⟨I, i0, turn, fin⟩ g1 dr => by
    refine ⟨fun i m σ H => m = ds.length - i ∧ i ≤ ds.length ∧ ∃ S δ', Ok X.K B S H σ δ' ∧ Ext S1 S ∧ I i δ', ⟨_, rfl, Nat.zero_le _, S1, δ, ok.grow g1, Ext.refl _, i0⟩, ?_⟩
    rintro i m σ2 H2 ⟨rfl, hi, S2, δ2, ok2, x2, i2⟩
    by_cases lt : i < ds.length
    · have e : ds[i]? = some ds[i] := by simp [lt]
      refine .inr ⟨dr.go i _ S2 H2 x2 ok2.sh e, fun σ' H' => i < ds.length ∧ ∃ S δ', Ok X.K B S H' σ' δ' ∧ Ext S1 S ∧ I (i + 1) δ', fun σ' H' ⟨_, z⟩ => ⟨ds.length - (i + 1), by omega, rfl, lt, z⟩, fun x H3 y => ?_⟩
      obtain ⟨S3, g3, r3⟩ := dr.yld i _ S2 H2 H3 x (WL σ2 δ2) x2 ok2.sh (fun a w => ok2.wne w) e y
      refine turn i _ δ2 e i2 S3 H3 σ2 x (ok2.grow g3) r3 _ fun σ4 S4 H4 δ4 h4 x4 ok4 => ?_
      have x14 : Ext S1 S4 := (x2.trans g3.ss).trans x4
      refine h4 S4 H4 σ4 ok4 _ ⟨fun S5 H5 σ5 δ5 x5 ok5 z => ⟨lt, S5, δ5, ok5, x14.trans x5, z⟩, mt.r, fun S5 H5 σ5 δ5 x5 ok5 z => mt.n _ _ _ _ ((g1.ss.trans x14).trans x5) ok5 z, fun S5 H5 σ5 δ5 x5 ok5 z => ⟨lt, S5, δ5, ok5, x14.trans x5, z⟩⟩
    · have e : i = ds.length := by omega
      subst e
      exact .inl ⟨dr.stop S2 H2 x2 ok2.sh, mt.n _ _ _ _ (g1.ss.trans x2) ok2 (fin δ2 i2)⟩⟩
end
end BA

set_option maxHeartbeats 4000000
namespace BA
open PySem L2 PyProof.Rows PySem.Spec
/-! contracts -/
structure Con where
  α : Type
  args : α → List Ent
  pre : α → Prop
  post : α → D → Prop
def Con.run (c : Con) (as : List Ent) (R : D → Prop) : Prop := ∃ x : c.α, as = c.args x ∧ c.pre x ∧ ∀ d, c.post x d → R d
def spOf (c : Con) : Sp := fun vs H Q _ => ∃ (S : Hp) (W : Addr → Prop) (x : c.α), Ext S H ∧ (∀ a, W a → S a = none ∧ Well H a) ∧ Args W S H (c.args x) vs ∧ c.pre x ∧ ∀ v d S' H', c.post x d → Grow W S H S' H' → Has S' d v → Q v H'
def spMk (C : Addr) (c : Con) : Sp := fun vs H Q _ => ∃ (S H1 : Hp) (W : Addr → Prop) (x : c.α) (a dx : Addr) (us : List V), vs = .ref a :: us ∧ Ext S H1 ∧ (∀ b, W b → S b = none ∧ Well H1 b) ∧ H1 a = none ∧ H1 dx = none ∧ dx ≠ a ∧
  H = upd (upd H1 dx (.own a)) a (.ins C dx []) ∧ Args W S H1 (c.args x) us ∧ c.pre x ∧ ∀ d S' H', c.post x d → Grow W S H1 S' H' → Has S' d (.ref a) → Q .non H'
/-- the slots behind the arguments are empty -/
def env0 (N : List Str) (es : List Ent) : List Ent := es ++ List.replicate (N.length - es.length) .unb
theorem start_at {N : List Str} {vs : List V} {i : Nat} {v : V} (h : vs[i]? = some v) : (L2.start N vs)[i]? = some (some v) := by
  unfold L2.start
  have hi : i < vs.length := (List.getElem?_eq_some_iff.mp h).1
  rw [List.getElem?_append_left (by rw [List.length_map]; exact hi), List.getElem?_map, h]
  rfl
theorem env0_at {N : List Str} {es : List Ent} {i : Nat} {e : Ent} (h : (env0 N es)[i]? = some e) : es[i]? = some e ∨ e = .unb := by
  unfold env0 at h
  by_cases hi : i < es.length
  · rw [List.getElem?_append_left hi] at h
    exact .inl h
  · rw [List.getElem?_append_right (by omega), List.getElem?_replicate] at h
    split at h
    · cases h; exact .inr rfl
    · cases h
theorem ok_start {K : PySem.W.Frag} {N : List Str} {S H : Hp} {W : Addr → Prop} {es : List Ent} {vs : List V} (sh : Ext S H) (r : Args W S H es vs) (hn : es.length ≤ N.length) : Ok K ⟨S, H, W⟩ S H (L2.start N vs) (env0 N es) := by
  have hl := r.length
  have noown : ∀ {i : Nat} {k : Kd} {xs : List D}, (env0 N es)[i]? ≠ some (.own k xs) := fun {i k xs} e => by
    rcases env0_at e with q | q
    · obtain ⟨v, _, z⟩ := r.get q
      exact z
    · cases q
  refine ⟨by unfold L2.start env0; simp [hl], fun i e h => ?_, fun i j k xs e a _ h => absurd h noown, sh, fun i k xs a h => absurd h noown, fun a w => ?_, Grow.refl sh⟩
  · rcases env0_at h with q | q
    · obtain ⟨v, hv, z⟩ := r.get q
      refine ⟨_, start_at hv, ?_⟩
      cases e with
      | dat d => exact ⟨v, rfl, z⟩
      | well => obtain ⟨a, rfl, _, s0, w⟩ := z; exact ⟨a, rfl, s0, w⟩
      | own _ _ => exact z.elim
      | unb => exact True.intro
      | scr _ => exact z.elim
    · subst q
      have hi : i < (L2.start N vs).length := by
        have := (List.getElem?_eq_some_iff.mp h).1
        unfold L2.start env0 at *
        simp at this ⊢
        omega
      exact ⟨_, List.getElem?_eq_getElem hi, True.intro⟩
  · obtain ⟨i, h1, h2⟩ := w
    rcases env0_at h1 with q | q
    · obtain ⟨v, hv, b, e, w, _⟩ := r.get q
      rw [start_at hv, e] at h2
      cases h2
      exact .inl w
    · cases q
section
variable {P : Program} {w : World} {K : PySem.W.Frag} {mg : Str → Option Value} {base : Heap} {nm qual : Str} {params : Arguments} {body : List Stmt} {scope : Scope} {f : Addr} {fd : FuncData} {N ps : List Str} {k : Nat}
theorem mk_def {c : Con} (F : FunD K nm qual params body scope [] [] f fd) (Sc : FnScope N ps scope) (hl : ∀ x, (c.args x).length = ps.length) (hn : ps.length ≤ N.length)
    (hb : ∀ (cdv : Value) (A : Around) (outer : List Env) (s : Shared) (H : Hp) (E : XK), Room k (A.deeper (envOfC qual scope s.heap.objs.size f cdv)) → ∀ (B : Base) (x : c.α), c.pre x →
      Exs (cxOf CX0 P w K mg base N qual scope f cdv A outer s H E).nox B body (env0 N (c.args x)) ⟨fun _ => c.post x .non, c.post x, fun _ => False, fun _ => False⟩) :
    FnOk P w K mg base CX0 (k + 1) f fd ps (spOf c) := by
  refine F.ok Sc (fun vs H Q E h => ?_) fun cdv A outer s H vs Q E hr h => ?_
  · obtain ⟨S, W, x, _, _, r, _⟩ := h
    rw [← r.length, hl]
  · obtain ⟨S, W, x, sh, hw, r, pre, q⟩ := h
    have ok := ok_start (K := K) (N := N) sh r (by rw [hl]; exact hn)
    obtain ⟨t, ht, hq⟩ := hb cdv A outer s H E hr ⟨S, H, W⟩ x pre S H _ ok { nx := fun _ H' => Q .non H', rt := Q } ⟨fun S1 H1 σ1 δ1 _ ok1 p => q .non .non S1 H1 p ok1.base rfl, fun S1 H1 v d g1 r1 p => q v d S1 H1 p g1 r1, fun _ _ _ _ _ _ z => z.elim, fun _ _ _ _ _ _ z => z.elim⟩
    exact ⟨t, ht.nox, hq⟩
theorem mk_init {c : Con} {C : Addr} (F : FunD K nm qual params body scope [] [] f fd) (Sc : FnScope N ps scope) (hl : ∀ x, (c.args x).length + 1 = ps.length) (hn : ps.length ≤ N.length)
    (hb : ∀ (cdv : Value) (A : Around) (outer : List Env) (s : Shared) (H : Hp) (E : XK), Room k (A.deeper (envOfC qual scope s.heap.objs.size f cdv)) → ∀ (B : Base) (x : c.α) (a dx : Addr), c.pre x →
      Exs (cxOf CX0 P w K mg base N qual scope f cdv A outer s H E).nox B body (env0 N (.own (.o C a dx []) [] :: c.args x))
        ⟨fun δ' => ∃ ns xs, δ'[0]? = some (.own (.o C a dx ns) xs) ∧ c.post x (.ins C ns xs), fun _ => False, fun _ => False, fun _ => False⟩) :
    FnOk P w K mg base CX0 (k + 1) f fd ps (spMk C c) := by
  refine F.ok Sc (fun vs H Q E h => ?_) fun cdv A outer s H vs Q E hr h => ?_
  · obtain ⟨S, H1, W, x, a, dx, us, rfl, _, _, _, _, _, _, r, _⟩ := h
    rw [List.length_cons, ← r.length, hl]
  · obtain ⟨S, H1, W, x, a, dx, us, rfl, sh, hw, na, nd, ne, rfl, r, pre, q⟩ := h
    have sa : S a = none := by
      cases e : S a with
      | none => rfl
      | some u => rw [sh _ _ e] at na; cases na
    have keep : ∀ b o, H1 b = some o → upd (upd H1 dx (.own a)) a (.ins C dx []) b = some o := fun b o e => by rw [upd_ne (ne_of_none e na), upd_ne (ne_of_none e nd)]; exact e
    have shH : Ext S (upd (upd H1 dx (.own a)) a (.ins C dx [])) := fun b o e => keep b o (sh b o e)
    have hlen := r.length
    have hN : (c.args x).length + 1 ≤ N.length := by rw [hl]; exact hn
    have noown : ∀ {i : Nat} {k : Kd} {xs : List D}, (env0 N (.own (.o C a dx []) [] :: c.args x))[i]? = some (.own k xs) → i = 0 ∧ k = .o C a dx [] ∧ xs = [] := fun {i k xs} e => by
      rcases env0_at e with z | z
      · cases i with
        | zero => cases z; exact ⟨rfl, rfl, rfl⟩
        | succ i =>
          obtain ⟨v, _, y⟩ := r.get (i := i) z
          exact y.elim
      · cases z
    have ok : Ok K ⟨S, H1, W⟩ S (upd (upd H1 dx (.own a)) a (.ins C dx [])) (L2.start N (.ref a :: us)) (env0 N (.own (.o C a dx []) [] :: c.args x)) := by
      refine ⟨by unfold L2.start env0; simp [hlen], fun i e h => ?_, fun i j k xs e b hij h1 h2 pr h3 h4 => ?_, shH, fun i k xs b h h2 => ?_, fun b wl => ?_, ⟨Ext.refl S, shH, fun b _ z => z, fun b o e _ => keep b o e, fun b _ z => ?_, fun b z => ?_⟩⟩
      · rcases env0_at h with z | z
        · cases i with
          | zero =>
            cases z
            exact ⟨_, start_at (v := .ref a) rfl, a, [], rfl, sa, upd_same, rfl, rfl, rfl⟩
          | succ i =>
            obtain ⟨v, hv, y⟩ := r.get (i := i) z
            refine ⟨_, start_at (v := v) hv, ?_⟩
            cases e with
            | dat d => exact ⟨v, rfl, y⟩
            | well =>
              obtain ⟨b, rfl, _, s0, A1, A2, A3, e1, y⟩ := y
              exact ⟨b, rfl, s0, A1, A2, A3, keep _ _ e1, y⟩
            | own _ _ => exact y.elim
            | unb => exact True.intro
            | scr _ => exact y.elim
        · subst z
          have hi : i < (L2.start N (.ref a :: us)).length := by
            have := (List.getElem?_eq_some_iff.mp h).1
            unfold L2.start env0 at *
            simp at this ⊢
            omega
          exact ⟨_, List.getElem?_eq_getElem hi, True.intro⟩
      · obtain ⟨rfl, _, _⟩ := noown h1
        rw [start_at (v := .ref a) rfl] at h3
        cases h3
        cases e with
        | own k2 ys => exact hij (noown h2).1.symm
        | well =>
          rcases env0_at h2 with z | z
          · cases j with
            | zero => cases z
            | succ j =>
              obtain ⟨v, hv, b, e1, _, _, A1, A2, A3, e2, _⟩ := r.get (i := j) z
              rw [start_at (vs := .ref a :: us) (i := j + 1) (v := v) hv, e1] at h4
              cases h4
              rw [na] at e2
              cases e2
          · cases z
        | dat _ => exact pr
        | unb => exact pr
        | scr _ => exact pr
      · obtain ⟨rfl, _, _⟩ := noown h
        rw [start_at (v := .ref a) rfl] at h2
        cases h2
        exact na
      · obtain ⟨i, h1, h2⟩ := wl
        rcases env0_at h1 with z | z
        · cases i with
          | zero => cases z
          | succ i =>
            obtain ⟨v, hv, b2, e1, wb, _⟩ := r.get (i := i) z
            rw [start_at (vs := .ref a :: us) (i := i + 1) (v := v) hv, e1] at h2
            cases h2
            exact .inl wb
        · cases z
      · obtain ⟨A1, A2, A3, e1, y⟩ := z
        exact ⟨A1, A2, A3, keep _ _ e1, y⟩
      · cases e : H1 b with
        | none => exact absurd e z
        | some o => rw [keep _ _ e]; exact fun z => nomatch z
    have mt : Meets K ⟨S, H1, W⟩ S { nx := fun _ H' => Q .non H', rt := Q } ⟨fun δ' => ∃ ns xs, δ'[0]? = some (.own (.o C a dx ns) xs) ∧ c.post x (.ins C ns xs), fun _ => False, fun _ => False, fun _ => False⟩ := by
      refine ⟨fun S1 H2 σ1 δ1 _ ok1 ⟨ns, xs, e, p⟩ => ?_, fun S1 H1 v d g1 r1 p => p.elim, fun _ _ _ _ _ _ z => z.elim, fun _ _ _ _ _ _ z => z.elim⟩
      obtain ⟨a2, vs, o, x2, hs, ok2⟩ := ok1.freeze e rfl
      obtain ⟨e2, _⟩ := o.fit
      subst e2
      exact q _ _ H2 p ok2.base hs
    obtain ⟨t, ht, hq⟩ := hb cdv A outer s _ E hr ⟨S, H1, W⟩ x a dx pre S _ _ ok { nx := fun _ H' => Q .non H', rt := Q } mt
    exact ⟨t, ht.nox, hq⟩
/-- a def of the text that keeps a contract -/
def DefOk (P : Program) (w : World) (K : PySem.W.Frag) (mg : Str → Option Value) (base : Heap) (k : Nat) (x : Str) (c : Con) : Prop :=
  ∃ (f : Addr) (fd : FuncData) (ps : List Str), mg x = some (.ref f) ∧ PySem.W.keepIn K (.ref f) = true ∧ Binds K fd ps [] ∧ FnOk P w K mg base CX0 k f fd ps (spOf c)
def MetOk (P : Program) (w : World) (K : PySem.W.Frag) (mg : Str → Option Value) (base : Heap) (k : Nat) (C : Addr) (m : Str) (c : Con) : Prop :=
  ∃ (f : Addr) (fd : FuncData) (ps : List Str), Cls K C ∧ Meth K C m f ∧ Binds K fd ps [] ∧ FnOk P w K mg base CX0 k f fd ps (spOf c)
def MakOk (P : Program) (w : World) (K : PySem.W.Frag) (mg : Str → Option Value) (base : Heap) (k : Nat) (C : Addr) (x : Str) (c : Con) : Prop :=
  ∃ (f : Addr) (fd : FuncData) (ps : List Str), mg x = some (.ref C) ∧ Mk K C f ∧ Binds K fd ps [] ∧ FnOk P w K mg base CX0 k f fd ps (spMk C c)
end

section
variable {X : Cx} {B : Base} {δ : List Ent} {R : D → Prop} {e a b : Expr} {es : List Expr} {pos : Pos} {p : Post} {k : Nat} {c : Con}
theorem ev_call {x : Str} {p1 : Pos} (F : DefOk X.prog X.w X.K X.mg X.base k x c) (hr : Room k X.A) (h : Ea X B (e :: es) δ fun as => c.run as R) (hg : Gl X x := by rfl) (hdb : (x == ("__debug__" : Str)) = false := by decide)
    (he : starEach (e :: es) X.env = (false, eval e X.env) :: starEach es X.env := by rfl) (hpl : (backTo pos (starEach es X.env)).any (·.1) = false := by rfl) : Ev X B (.Call (.Name x p1) (e :: es) [] pos) δ R := fun S H σ ok Q q => by
  obtain ⟨f, fd, ps, hm, hk, hb, FO⟩ := F
  refine ⟨_, pe_call FO hr hg hm hk hb .nil pass0 (pa_u _) hdb he hpl, h S H σ ok _ fun vs as S1 H1 ⟨y, e1, pre, post⟩ g1 r1 => ?_⟩
  subst e1
  have ok1 := ok.grow g1
  rw [List.append_nil]
  exact ⟨S1, WL σ δ, y, ok1.sh, fun a w => ok1.well w, r1, pre, fun v d S' H' z g r => q v d S' H' (post d z) (g1.trans g) r⟩
theorem lookup_zip_none {m : Str} : ∀ {ns : List Str} {vs : List V}, m ∉ ns → (ns.zip vs).lookup m = none
  | [], _, _ => rfl
  | _ :: _, [], _ => rfl
  | n :: ns, v :: vs, h => by
    have h1 : m ≠ n := fun z => h (by rw [z]; exact List.mem_cons_self ..)
    show List.lookup m ((n, v) :: ns.zip vs) = none
    have hb : (m == n) = false := beq_eq_false_iff_ne.mpr h1
    simp only [List.lookup, hb]
    exact lookup_zip_none fun z => h (List.mem_cons_of_mem _ z)
theorem lookup_zip {S : Hp} {f : Str} {d : D} : ∀ {ns : List Str} {xs : List D} {vs : List V}, HasL S xs vs → (ns.zip xs).lookup f = some d → ∃ v, (ns.zip vs).lookup f = some v ∧ Has S d v
  | [], _, _, _, h => by cases h
  | _ :: _, [], _, _, h => by cases h
  | n :: ns, x :: xs, _, ⟨v, r, rfl, h1, h2⟩, h => by
    have h : List.lookup f ((n, x) :: ns.zip xs) = some d := h
    show ∃ u, List.lookup f ((n, v) :: ns.zip r) = some u ∧ _
    cases hb : (f == n) with
    | true =>
      simp only [List.lookup, hb] at h ⊢
      cases h
      exact ⟨v, rfl, h1⟩
    | false =>
      simp only [List.lookup, hb] at h ⊢
      exact lookup_zip h2 h
theorem ev_meth {C : Addr} {m : Str} {ns : List Str} {apos : Pos} {o : Expr} {pl : Sem Bool} (F : MetOk X.prog X.w X.K X.mg X.base k C m c) (hr : Room k X.A) (hm : m ∉ ns)
    (h : Ev X B o δ fun d => ∃ xs, d = .ins C ns xs ∧ Ea X B (e :: es) δ fun as => c.run (.dat d :: as) R)
    (hst : starEach (e :: es) X.env = (false, eval e X.env) :: starEach es X.env := by rfl) (hpl : (backTo pos (starEach es X.env)).any (·.1) = false := by rfl)
    (ht : eval (.Call (.Attribute o m apos) (e :: es) [] pos) X.env = (do
      let ov ← eval o X.env
      standAt apos.atName
      let (f, first) ← holding [ov] (getMethod ov m pl)
      callWith pos f first (backTo pos (starEach (e :: es) X.env)) (backToKw pos (keywordEach [] X.env))) := by rfl) : Ev X B (.Call (.Attribute o m apos) (e :: es) [] pos) δ R := fun S H σ ok Q q => by
  obtain ⟨f, fd, ps, cl, hM, hb, FO⟩ := F
  refine ⟨_, pe_meth (pl := pl) (pe_u o) cl hM FO hr hb .nil pass0 (pa_u _) hst hpl ht, h S H σ ok _ fun v d S1 H1 ⟨xs, e1, h1⟩ g1 r1 => ?_⟩
  subst e1
  obtain ⟨a, dx, vs, rfl, sa, hl, hx⟩ := r1
  refine ⟨a, dx, _, rfl, g1.hs _ _ sa, lookup_zip_none hm, h1 S1 H1 σ (ok.grow g1) _ fun us as S2 H2 ⟨y, e1, pre, post⟩ g2 r2 => ?_⟩
  have ok2 := (ok.grow g1).grow g2
  rw [List.append_nil]
  refine ⟨S2, WL σ δ, y, ok2.sh, fun a w => ok2.well w, ?_, pre, fun v d S' H' z g r => q v d S' H' (post d z) ((g1.trans g2).trans g) r⟩
  rw [← e1]
  exact ⟨.ref a, us, rfl, ⟨a, dx, vs, rfl, g2.ss _ _ sa, hl, hx.mono g2.ss⟩, r2⟩
theorem ev_meth0 {C : Addr} {m : Str} {ns : List Str} {apos : Pos} {o : Expr} {pl : Sem Bool} (F : MetOk X.prog X.w X.K X.mg X.base k C m c) (hr : Room k X.A) (hm : m ∉ ns)
    (h : Ev X B o δ fun d => ∃ xs, d = .ins C ns xs ∧ c.run [.dat d] R)
    (ht : eval (.Call (.Attribute o m apos) [] [] pos) X.env = (do
      let ov ← eval o X.env
      standAt apos.atName
      let (f, first) ← holding [ov] (getMethod ov m pl)
      callWith pos f first (backTo pos (starEach [] X.env)) (backToKw pos (keywordEach [] X.env))) := by rfl) : Ev X B (.Call (.Attribute o m apos) [] [] pos) δ R := fun S H σ ok Q q => by
  obtain ⟨f, fd, ps, cl, hM, hb, FO⟩ := F
  refine ⟨_, pe_meth0 (pl := pl) (pe_u o) cl hM FO hr hb .nil pass0 ht, h S H σ ok _ fun v d S1 H1 ⟨xs, e1, y, e2, pre, post⟩ g1 r1 => ?_⟩
  subst e1
  obtain ⟨a, dx, vs, rfl, sa, hl, hx⟩ := r1
  refine ⟨a, dx, _, rfl, g1.hs _ _ sa, lookup_zip_none hm, ?_⟩
  have ok2 := ok.grow g1
  refine ⟨S1, WL σ δ, y, ok2.sh, fun a w => ok2.well w, ?_, pre, fun v d S' H' z g r => q v d S' H' (post d z) (g1.trans g) r⟩
  rw [← e2]
  exact ⟨.ref a, [], rfl, ⟨a, dx, vs, rfl, sa, hl, hx⟩, rfl⟩
theorem ev_make {x : Str} {p1 : Pos} {C : Addr} (F : MakOk X.prog X.w X.K X.mg X.base k C x c) (hr : Room (k + 1) X.A) (h : Ea X B (e :: es) δ fun as => c.run as R) (hg : Gl X x := by rfl) (hdb : (x == ("__debug__" : Str)) = false := by decide)
    (he : starEach (e :: es) X.env = (false, eval e X.env) :: starEach es X.env := by rfl) (hpl : (backTo pos (starEach es X.env)).any (·.1) = false := by rfl) : Ev X B (.Call (.Name x p1) (e :: es) [] pos) δ R := fun S H σ ok Q q => by
  obtain ⟨f, fd, ps, hm, M, hb, FO⟩ := F
  refine ⟨_, pe_make M FO hr hg hm hb .nil pass0 (pa_u _) hdb he hpl, h S H σ ok _ fun vs as S1 H1 ⟨y, e1, pre, post⟩ g1 r1 a dx na nd ne => ?_⟩
  subst e1
  have ok1 := ok.grow g1
  rw [List.append_nil]
  exact ⟨S1, H1, WL σ δ, y, a, dx, vs, rfl, ok1.sh, fun a w => ok1.well w, na, nd, ne, rfl, r1, pre, fun d S' H' z g r => ⟨rfl, q _ d S' H' (post d z) (g1.trans g) r⟩⟩

/-! attributes -/
theorem ev_fld {C : Addr} {f : Str} {o : Expr} (cl : Cls X.K C) (na : NoAttr X.K C f) (h : Ev X B o δ fun d => ∃ ns xs y, d = .ins C ns xs ∧ (ns.zip xs).lookup f = some y ∧ R y)
    (hb : attributeBase o f X.env (eval o X.env) = eval o X.env := by rfl) : Ev X B (.Attribute o f pos) δ R := fun S H σ ok Q q =>
  ⟨_, pe_fld (pe_u o) hb, h S H σ ok _ fun v d S1 H1 ⟨ns, xs, y, e1, l, r⟩ g1 r1 => by
    subst e1
    obtain ⟨a, dx, vs, rfl, sa, hl, hx⟩ := r1
    obtain ⟨v, lv, hv⟩ := lookup_zip hx l
    exact ⟨a, C, dx, _, v, rfl, g1.hs _ _ sa, cl, na, lv, q v y S1 H1 r g1 hv⟩⟩
theorem ev_fldOwn (i : Nat) {x : Str} {C a dx : Addr} {ns : List Str} {xs : List D} {y : D} {f : Str} {pos' : Pos} (hd : δ[i]? = some (.own (.o C a dx ns) xs)) (cl : Cls X.K C) (na : NoAttr X.K C f) (hy : (ns.zip xs).lookup f = some y) (h : R y)
    (hN : X.N[i]? = some x := by rfl) (hv : Vis X.env.scope x := by first | exact Or.inl rfl | exact Or.inr (Or.inl rfl) | exact Or.inr (Or.inr rfl)) (h1 : (x == ("__debug__" : Str)) = false := by decide) (h2 : (x == ("__classdict__" : Str)) = false := by decide)
    (hb : attributeBase (.Name x pos') f X.env (eval (.Name x pos') X.env) = eval (.Name x pos') X.env := by rfl) : Ev X B (.Attribute (.Name x pos') f pos) δ R := fun S H σ ok Q q => by
  obtain ⟨a2, vs, o⟩ := ok.ownAt hd
  obtain ⟨v, lv, hv2⟩ := lookup_zip o.has hy
  exact ⟨_, pe_fld (pe_var (i := i) hN hv h1 h2) hb, _, o.sl, a2, C, dx, _, v, rfl, o.h0, cl, na, lv, q v y S H h ok.refl hv2⟩
theorem putF_zip {f : Str} {y : V} : ∀ {ns : List Str} {vs : List V}, ns.length = vs.length → f ∉ ns → putF f y (ns.zip vs) = (ns ++ [f]).zip (vs ++ [y])
  | [], [], _, _ => rfl
  | [], _ :: _, h, _ => by cases h
  | _ :: _, [], h, _ => by cases h
  | n :: ns, v :: vs, h, hf => by
    have h1 : ¬ n = f := fun z => hf (by rw [z]; exact List.mem_cons_self ..)
    show (if n = f then _ else (n, v) :: putF f y (ns.zip vs)) = (n, v) :: (ns ++ [f]).zip (vs ++ [y])
    rw [if_neg h1, putF_zip (Nat.succ.inj h) fun z => hf (List.mem_cons_of_mem _ z)]
theorem set_same {α : Type} {l : List α} {i : Nat} {v : α} (h : l[i]? = some v) : l.set i v = l := by
  obtain ⟨hi, e⟩ := List.getElem?_eq_some_iff.mp h
  rw [← e]
  exact List.set_getElem_self hi
/-- self.f = e, of an instance in the making -/
theorem ex_fld (i : Nat) {x : Str} {C a dx : Addr} {ns : List Str} {xs : List D} {f : Str} {p1 p2 : Pos} {value : Expr} (hd : δ[i]? = some (.own (.o C a dx ns) xs)) (cl : Cls X.K C) (na : NoAttr X.K C f) (hf : f ∉ ns) (hl : ns.length < 1000)
    (h : Ev X B value δ fun d => p.n (δ.set i (.own (.o C a dx (ns ++ [f])) (xs ++ [d])))) (hN : X.N[i]? = some x := by rfl) (hv : Vis X.env.scope x := by first | exact Or.inl rfl | exact Or.inr (Or.inl rfl) | exact Or.inr (Or.inr rfl))
    (h1 : (x == ("__debug__" : Str)) = false := by decide) (h2 : (x == ("__classdict__" : Str)) = false := by decide) (hs : swapsWith value (some (.Attribute (.Name x p2) f p1)) pos.line X.env = pure false := by rfl) :
    Ex X B (.Assign [.Attribute (.Name x p2) f p1] value pos) δ p := fun S H σ ok E m =>
  ⟨_, ps_fld (pe_var (i := i) hN hv h1 h2) (pe_u value) hs, h S H σ ok _ fun v d S1 H1 hp g1 r1 => by
    have ok1 := ok.grow g1
    obtain ⟨a2, vs, o⟩ := ok1.ownAt hd
    obtain ⟨e2, hl2⟩ := o.fit
    subst e2
    have hlv : ns.length = vs.length := by rw [hl2, o.has.length]
    refine ⟨_, o.sl, a2, C, dx, ns.zip vs, rfl, o.h0, cl, na, ?_, ?_⟩
    · rw [List.length_zip, ← hlv, Nat.min_self]; exact hl
    · rw [putF_zip hlv hf]
      have ok2 := ok1.putOwn (i := i) (kd := .o C a2 dx (ns ++ [f])) (xs := xs ++ [d]) (vs := vs ++ [v]) o.s0 o.nw o.n0 o.sep (o.has.append (HasL.one r1)) ⟨rfl, by simp [hl2]⟩
      rw [set_same o.sl] at ok2
      exact m.n _ _ _ _ g1.ss ok2 hp⟩

/-! a thing of one's own -/
theorem exs_freeze (i : Nat) {kd : Kd} {xs : List D} {d : D} {sts : List Stmt} (hd : δ[i]? = some (.own kd xs)) (hk : kd.dat xs = some d) (h : Exs X B sts (δ.set i (.dat d)) p) : Exs X B sts δ p := fun S H σ ok E m => by
  obtain ⟨a, vs, o, ex, hs, ok2⟩ := ok.freeze hd hk
  exact h _ H σ ok2 E (m.up ex)
theorem ex_freeze (i : Nat) {kd : Kd} {xs : List D} {d : D} {st : Stmt} (hd : δ[i]? = some (.own kd xs)) (hk : kd.dat xs = some d) (h : Ex X B st (δ.set i (.dat d)) p) : Ex X B st δ p := fun S H σ ok E m => by
  obtain ⟨a, vs, o, ex, hs, ok2⟩ := ok.freeze hd hk
  exact h _ H σ ok2 E (m.up ex)
def D.flat : D → Bool
  | .non => true | .bl _ => true | .int _ => true | .str _ => true
  | _ => false
theorem Has.flat {S S' : Hp} {v : V} : ∀ {d : D}, d.flat = true → Has S d v → Has S' d v
  | .non, _, h => h
  | .bl _, _, h => h
  | .int _, _, h => h
  | .str _, _, h => h
theorem thaw {K : PySem.W.Frag} {S H S' H' : Hp} {σ : L2.St} {i : Nat} {kd : Kd} {xs : List D} {d : D} {a : Addr} {vs : List V} (ok : Ok K B S H σ δ) (hd : δ[i]? = some (.own kd xs)) (o : OwnAt K B S H σ δ i kd xs a vs) (g : Grow (WL σ (δ.set i (.dat d))) (upd S a (kd.ho vs)) H S' H') :
    Grow (WL σ δ) S H (fun b => if b = a then none else S' b) H' := by
  have g' := g.imp fun b z => (wl_freeze hd b).mp z
  refine ⟨fun b u e => ?_, fun b u e => ?_, fun b hb sb => ?_, g'.kp, g'.wk, g'.up⟩
  · have ne : b ≠ a := fun z => by rw [z, o.s0] at e; cases e
    show (if b = a then none else S' b) = some u
    rw [if_neg ne]
    exact g'.ss b u (by rw [upd_ne ne]; exact e)
  · by_cases z : b = a
    · rw [if_pos z] at e; cases e
    · rw [if_neg z] at e; exact g'.hs b u e
  · show (if b = a then none else S' b) = none
    by_cases z : b = a
    · rw [if_pos z]
    · rw [if_neg z]
      exact g'.fr b hb (by rw [upd_ne z]; exact sb)
/-- a plain value out of a thing of one's own -/
theorem ev_thaw (i : Nat) {kd : Kd} {xs : List D} {d : D} (hd : δ[i]? = some (.own kd xs)) (hk : kd.dat xs = some d) (h : Ev X B e (δ.set i (.dat d)) fun y => y.flat = true ∧ R y) : Ev X B e δ R := fun S H σ ok Q q => by
  obtain ⟨a, vs, o, ex, hs, ok2⟩ := ok.freeze hd hk
  exact h _ H σ ok2 Q fun v y S' H' ⟨fl, r⟩ g hv => q v y _ H' r (thaw ok hd o g) (hv.flat fl)
theorem et_thaw (i : Nat) {kd : Kd} {xs : List D} {d : D} {T : Bool → Prop} (hd : δ[i]? = some (.own kd xs)) (hk : kd.dat xs = some d) (h : Et X B e (δ.set i (.dat d)) T) : Et X B e δ T := fun S H σ ok Q q => by
  obtain ⟨a, vs, o, ex, hs, ok2⟩ := ok.freeze hd hk
  exact h _ H σ ok2 Q fun b S' H' r g => q b _ H' r (thaw ok hd o g)
/-- x = [..], a list of one's own -/
theorem ex_own (i : Nat) {x : Str} {pos' : Pos} (hN : X.N.Nodup) (h : Ea X B es δ (Dats fun ds => ds.length ≤ sizeLine ∧ p.n (δ.set i (.own .l ds)))) (hi : X.N[i]? = some x := by rfl) (hx : Loc X.env.scope x := by first | exact .inl rfl | exact .inr rfl)
    {pl : Pos} (hs : swapsWith (.List es pl) (some (.Name x pos')) pos.line X.env = pure false := by rfl) (hf : X.fn x = true ∨ X.env.scope.names.lookup x = some .local := by first | exact .inl rfl | exact .inr rfl | assumption) : Ex X B (.Assign [.Name x pos'] (.List es pl) pos) δ p := fun S H σ ok E m =>
  ⟨_, ps_set (i := i) hN hi hx (pe_lst (pa_u es)) hs hf, h S H σ ok _ fun vs as S1 H1 ⟨ds, e, z, r⟩ g1 ra => by
    subst e
    have hl := ra.dats
    have ok1 := ok.grow g1
    refine ⟨by rw [← hl.length]; exact z, fun q nq => ?_⟩
    have n0 : B.H0 q = none := by
      cases e : B.H0 q with
      | none => rfl
      | some u => exact absurd nq (ok1.base.up q (by rw [e]; exact fun z => nomatch z))
    refine m.n _ _ _ _ g1.ss (ok1.putOwn (i := i) (kd := .l) (vs := vs) (a := q) (ok1.snone nq) (fun w => ok1.wne w nq) n0 (fun j k ys _ hj hs => ?_) hl True.intro) r
    obtain ⟨b, us, o⟩ := ok1.ownAt hj
    have e2 : b = q := by have e3 := o.sl; rw [hs] at e3; cases e3; rfl
    have e3 := o.h0
    rw [e2, nq] at e3
    cases e3⟩
theorem ex_append (i : Nat) {x : Str} {xs : List D} {p1 p2 p3 : Pos} {e : Expr} (hd : δ[i]? = some (.own .l xs)) (hl : xs.length < sizeLine) (h : Ev X B e δ fun d => p.n (δ.set i (.own .l (xs ++ [d]))))
    (hN : X.N[i]? = some x := by rfl) (hv : Vis X.env.scope x := by first | exact Or.inl rfl | exact Or.inr (Or.inl rfl) | exact Or.inr (Or.inr rfl)) (h1 : (x == ("__debug__" : Str)) = false := by decide) (h2 : (x == ("__classdict__" : Str)) = false := by decide)
    (hb : attributeBase (.Name x p1) "append" X.env (eval (.Name x p1) X.env) = eval (.Name x p1) X.env := by rfl)
    (hfew : ((backTo p3 (starEach [e] X.env)).all (fun x => !x.1) && (backToKw p3 (keywordEach [] X.env)).all (fun x => x.1.isSome)
      && decide (([e] : List Expr).length + ([] : List Keyword).length + (if ([] : List Keyword).isEmpty then 0 else 1) < 30)) = true := by rfl)
    (hline : (p2.endLine == p3.line) = true := by rfl) (hs : starEach [e] X.env = (false, eval e X.env) :: starEach [] X.env := by rfl) (hplain : (backTo p3 (starEach [] X.env)).any (·.1) = false := by rfl)
    (hsw : swapsWith (.Call (.Attribute (.Name x p1) "append" p2) [e] [] p3) none pos.line X.env = pure false := by rfl) :
    Ex X B (.Expr (.Call (.Attribute (.Name x p1) "append" p2) [e] [] p3) pos) δ p := fun S H σ ok E m => by
  obtain ⟨a, vs, o⟩ := ok.ownAt hd
  refine ⟨_, ps_expr (pe_bm PySem.F.plainAttrs_list PySem.F.slot_list_append PySem.F.type_list_append mt_append (pe_var (i := i) hN hv h1 h2) (pa_cons (pe_u e) pa_nil hs) hb hfew hline hs hplain) hsw, _, o.sl, .inl ⟨rfl, _, SqL.of o.h0⟩, ?_⟩
  refine h S H σ ok _ fun v d S1 H1 hp g1 r1 => ?_
  have ok1 := ok.grow g1
  obtain ⟨a2, vs2, o2⟩ := ok1.ownAt hd
  have e2 : a2 = a := by have e3 := o2.sl; rw [o.sl] at e3; cases e3; rfl
  subst e2
  refine ⟨a2, vs2, v, rfl, rfl, o2.h0, by rw [← o2.has.length]; exact hl, ?_⟩
  have ok2 := ok1.putOwn (i := i) (kd := .l) (xs := xs ++ [d]) (vs := vs2 ++ [v]) o2.s0 o2.nw o2.n0 o2.sep (o2.has.append (HasL.one r1)) True.intro
  rw [set_same o2.sl] at ok2
  exact m.n _ _ _ _ g1.ss ok2 hp
end
end BA

set_option maxHeartbeats 4000000
namespace BA
open PySem L2 PyProof.Rows
section
variable {X : Cx} {B : Base} {δ : List Ent} {R : D → Prop} {k : Nat}
/-! operators -/
theorem bo_of {f : Value → Value → Sem Value} {g : Int → Int → V} {i j : Int} {d : D} (ho : OpR X f (rI0 g)) (hd : ∀ S, Has S d (g i j)) (h : R d) : Bo X B f (.int i) (.int j) δ R := fun S H σ v u ok r1 r2 Q q => by
  cases r1
  cases r2
  exact ⟨_, ho, i, j, rfl, rfl, q _ d S H h ok.refl (hd S)⟩
theorem bo_ofC {f : Value → Value → Sem Value} {C : Int → Int → Prop} {g : Int → Int → V} {i j : Int} {d : D} (ho : OpR X f (rI C g)) (hc : C i j) (hd : ∀ S, Has S d (g i j)) (h : R d) : Bo X B f (.int i) (.int j) δ R := fun S H σ v u ok r1 r2 Q q => by
  cases r1
  cases r2
  exact ⟨_, ho, i, j, rfl, rfl, hc, q _ d S H h ok.refl (hd S)⟩
theorem bo_add {i j : Int} (h : R (.int (i + j))) : Bo X B (binaryOp .Add) (.int i) (.int j) δ R := bo_of (d := .int (i + j)) op_add (fun _ => rfl) h
theorem bo_sub {i j : Int} (h : R (.int (i - j))) : Bo X B (binaryOp .Sub) (.int i) (.int j) δ R := bo_of (d := .int (i - j)) op_sub (fun _ => rfl) h
theorem bo_mul {i j : Int} (hc : CMul i j) (h : R (.int (i * j))) : Bo X B (binaryOp .Mult) (.int i) (.int j) δ R := bo_ofC (d := .int (i * j)) op_mul hc (fun _ => rfl) h
theorem bo_mod {i j : Int} (hc : 0 < j) (h : R (.int (i % j))) : Bo X B (binaryOp .Mod) (.int i) (.int j) δ R := bo_ofC (d := .int (i % j)) op_mod hc (fun _ => rfl) h
theorem bo_fdiv {i j : Int} (hc : CDiv i j) (h : R (.int (i / j))) : Bo X B (binaryOp .FloorDiv) (.int i) (.int j) δ R := bo_ofC (d := .int (i / j)) op_fdiv hc (fun _ => rfl) h
theorem bo_pow {i j : Int} (hc : CPow i j) (h : R (.int (i ^ j.toNat))) : Bo X B (binaryOp .Pow) (.int i) (.int j) δ R := bo_ofC (d := .int (i ^ j.toNat)) op_pow hc (fun _ => rfl) h
theorem bo_lt {i j : Int} (h : R (.bl (decide (i < j)))) : Bo X B (compareOp .Lt) (.int i) (.int j) δ R := bo_of (d := .bl (decide (i < j))) op_lt (fun _ => rfl) h
theorem bo_le {i j : Int} (h : R (.bl (decide (i ≤ j)))) : Bo X B (compareOp .LtE) (.int i) (.int j) δ R := bo_of (d := .bl (decide (i ≤ j))) op_le (fun _ => rfl) h
theorem bo_gt {i j : Int} (h : R (.bl (decide (j < i)))) : Bo X B (compareOp .Gt) (.int i) (.int j) δ R := bo_of (d := .bl (decide (j < i))) op_gt (fun _ => rfl) h
theorem bo_ge {i j : Int} (h : R (.bl (decide (j ≤ i)))) : Bo X B (compareOp .GtE) (.int i) (.int j) δ R := bo_of (d := .bl (decide (j ≤ i))) op_ge (fun _ => rfl) h
theorem bo_eq {i j : Int} (h : R (.bl (decide (i = j)))) : Bo X B (compareOp .Eq) (.int i) (.int j) δ R := fun S H σ v u ok r1 r2 Q q => by
  cases r1
  cases r2
  exact ⟨_, op_eq, rfl, q _ (.bl (decide (i = j))) S H h ok.refl (show V.bl _ = V.bl _ by rw [dec_int]; rfl)⟩
theorem bo_ne {i j : Int} (h : R (.bl (!decide (i = j)))) : Bo X B (compareOp .NotEq) (.int i) (.int j) δ R := fun S H σ v u ok r1 r2 Q q => by
  cases r1
  cases r2
  exact ⟨_, op_ne, rfl, q _ (.bl (!decide (i = j))) S H h ok.refl (show V.bl _ = V.bl _ by rw [dec_int]; rfl)⟩
theorem bo_eqS {i j : Str} {b : Bool} (e : decide (i = j) = b) (h : R (.bl b)) : Bo X B (compareOp .Eq) (.str i) (.str j) δ R := fun S H σ v u ok r1 r2 Q q => by
  cases r1
  cases r2
  refine ⟨_, op_eq, rfl, q _ (.bl b) S H h ok.refl (show V.bl _ = V.bl _ from ?_)⟩
  rw [← e]
  by_cases z : i = j
  · subst z; simp
  · rw [decide_eq_false z, decide_eq_false fun y => z (V.str.inj y)]
theorem bo_neS {i j : Str} {b : Bool} (e : decide (i = j) = b) (h : R (.bl (!b))) : Bo X B (compareOp .NotEq) (.str i) (.str j) δ R := fun S H σ v u ok r1 r2 Q q => by
  cases r1
  cases r2
  refine ⟨_, op_ne, rfl, q _ (.bl (!b)) S H h ok.refl (show V.bl _ = V.bl _ from ?_)⟩
  rw [← e]
  by_cases z : i = j
  · subst z; simp
  · rw [decide_eq_false z, decide_eq_false fun y => z (V.str.inj y)]
def D.isNon : D → Bool
  | .non => true
  | _ => false
theorem Has.isNon {S : Hp} {v : V} : ∀ {d : D}, Has S d v → decide (v = .non) = d.isNon
  | .non, h => by rw [show v = .non from h]; rfl
  | .bl _, h => by rw [show v = _ from h]; rfl
  | .int _, h => by rw [show v = _ from h]; rfl
  | .str _, h => by rw [show v = _ from h]; rfl
  | .tup _, ⟨_, _, h, _⟩ => by rw [h]; rfl
  | .lst _, ⟨_, _, h, _⟩ => by rw [h]; rfl
  | .ins _ _ _, ⟨_, _, _, h, _⟩ => by rw [h]; rfl
  | .dic _, ⟨_, h, _⟩ => by rw [h]; rfl
  | .tpw _, ⟨_, _, h, _⟩ => by rw [h]; rfl
theorem bo_isN {d : D} (h : R (.bl d.isNon)) : Bo X B (compareOp .Is) d .non δ R := fun S H σ v u ok r1 r2 Q q => by
  cases r2
  exact ⟨_, op_isN, rfl, q _ (.bl d.isNon) S H h ok.refl (show V.bl _ = V.bl _ by rw [r1.isNon])⟩
theorem bo_notN {d : D} (h : R (.bl (!d.isNon))) : Bo X B (compareOp .IsNot) d .non δ R := fun S H σ v u ok r1 r2 Q q => by
  cases r2
  exact ⟨_, op_notN, rfl, q _ (.bl (!d.isNon)) S H h ok.refl (show V.bl _ = V.bl _ by rw [r1.isNon])⟩
theorem bo_notT {b : Bool} (h : R (.bl (!b))) : Bo X B (compareOp .IsNot) (.bl b) (.bl true) δ R := fun S H σ v u ok r1 r2 Q q => by
  cases r1
  cases r2
  exact ⟨_, op_notBl, b, true, rfl, rfl, q _ (.bl (!b)) S H h ok.refl (show V.bl _ = V.bl _ by cases b <;> rfl)⟩
/-! data that are equal to themselves -/
mutual
def D.py : D → PyData
  | .non => .none
  | .bl b => .bool b
  | .int i => .int i
  | .str s => .str s
  | .tup xs => .tuple (D.pys xs)
  | .lst xs => .list (D.pys xs)
  | .ins _ _ _ => .none
  | .dic _ => .none
  | .tpw _ => .none
def D.pys : List D → List PyData
  | [] => []
  | x :: xs => D.py x :: D.pys xs
end
mutual
/-- plain data, at most so deep -/
def D.pl : D → Nat → Bool
  | .non, _ => true
  | .bl _, _ => true
  | .int _, _ => true
  | .str s, _ => PyData.strOk s
  | .tup xs, n => match n with | 0 => false | n + 1 => D.pls xs n
  | .lst xs, n => match n with | 0 => false | n + 1 => D.pls xs n
  | .ins _ _ _, _ => false
  | .dic _, _ => false
  | .tpw _, _ => false
def D.pls : List D → Nat → Bool
  | [], _ => true
  | x :: xs, n => D.pl x n && D.pls xs n
end
mutual
theorem D.pl_lay : ∀ (d : D) (n : Nat), d.pl n = true → d.py.canLay0 = true ∧ d.py.depth ≤ n
  | .non, n, _ => ⟨rfl, Nat.zero_le _⟩
  | .bl _, n, _ => ⟨rfl, Nat.zero_le _⟩
  | .int _, n, _ => ⟨rfl, Nat.zero_le _⟩
  | .str s, n, h => ⟨h, Nat.zero_le _⟩
  | .tup xs, 0, h => by cases h
  | .tup xs, n + 1, h => by
    have q := D.pls_lay xs n h
    exact ⟨q.1, Nat.succ_le_succ q.2⟩
  | .lst xs, 0, h => by cases h
  | .lst xs, n + 1, h => by
    have q := D.pls_lay xs n h
    exact ⟨q.1, Nat.succ_le_succ q.2⟩
  | .ins _ _ _, _, h => by cases h
  | .dic _, _, h => by cases h
  | .tpw _, _, h => by cases h
theorem D.pls_lay : ∀ (ds : List D) (n : Nat), D.pls ds n = true → PyData.canLayAll0 (D.pys ds) = true ∧ PyData.depthAll (D.pys ds) ≤ n
  | [], n, _ => ⟨rfl, Nat.zero_le _⟩
  | x :: xs, n, h => by
    have h2 := Bool.and_eq_true_iff.mp (show (D.pl x n && D.pls xs n) = true from h)
    have q1 := D.pl_lay x n h2.1
    have q2 := D.pls_lay xs n h2.2
    exact ⟨Bool.and_eq_true_iff.mpr ⟨q1.1, q2.1⟩, Nat.max_le.mpr ⟨q1.2, q2.2⟩⟩
end
section
variable {K : PySem.W.Frag} {S H : Hp}
mutual
theorem D.dp (sh : Ext S H) : ∀ (d : D) (n : Nat) (v : V), d.pl n = true → Has S d v → Dp K H v d.py
  | .non, _, _, _, h => by rw [show _ = V.non from h]; exact .non
  | .bl b, _, v, _, h => by rw [show v = .bl b from h]; exact .bl b
  | .int i, _, v, _, h => by rw [show v = .int i from h]; exact .int i
  | .str s, _, v, _, h => by rw [show v = .str s from h]; exact .str s
  | .tup xs, 0, _, h, _ => by cases h
  | .tup xs, n + 1, _, h, ⟨a, vs, e, ⟨o, ho, hd⟩, hl⟩ => by rw [e]; exact .tup (TupF.sq ⟨o, sh _ _ ho, hd⟩) (D.dps sh xs n vs h hl)
  | .lst xs, 0, _, h, _ => by cases h
  | .lst xs, n + 1, _, h, ⟨a, vs, e, ho, hl⟩ => by rw [e]; exact .lst (SqL.of (sh _ _ ho)) (D.dps sh xs n vs h hl)
  | .ins _ _ _, _, _, h, _ => by cases h
  | .dic _, _, _, h, _ => by cases h
  | .tpw _, _, _, h, _ => by cases h
theorem D.dps (sh : Ext S H) : ∀ (ds : List D) (n : Nat) (vs : List V), D.pls ds n = true → HasL S ds vs → DpAll K H vs (D.pys ds)
  | [], _, vs, _, h => by rw [show vs = [] from h]; exact .nil
  | x :: xs, n, _, h, ⟨v, r, e, h1, h2⟩ => by
    have h3 := Bool.and_eq_true_iff.mp (show (D.pl x n && D.pls xs n) = true from h)
    rw [e]
    exact .cons (D.dp sh x n v h3.1 h1) (D.dps sh xs n r h3.2 h2)
end
end
theorem D.pls_ints : ∀ (ns : List Int) (n : Nat), D.pls (ns.map D.int) n = true
  | [], _ => rfl
  | _ :: ns, n => by show (true && D.pls (ns.map D.int) n) = true; rw [D.pls_ints ns n]; rfl
theorem D.pls_all {ds : List D} {n : Nat} (h : ∀ d ∈ ds, d.pl n = true) : D.pls ds n = true := by
  induction ds with
  | nil => rfl
  | cons x xs ih =>
    show (D.pl x n && D.pls xs n) = true
    rw [h x (List.mem_cons_self ..), ih fun d hd => h d (List.mem_cons_of_mem _ hd)]
    rfl
theorem bo_same {d : D} (hp : d.pl 60 = true) (hr : Room k X.A) (h : R (.bl true)) : Bo X B (compareOp .Eq) d d δ R := fun S H σ v u ok r1 r2 Q q => by
  have l := d.pl_lay 60 hp
  have sp : SeqAt.shaped d.py = true := Bool.and_eq_true_iff.mpr ⟨l.1, decide_eq_true (Nat.le_trans l.2 (by decide))⟩
  exact ⟨_, op_eqD hr.units, d.py, d.py, D.dp ok.sh d 60 v hp r1, D.dp ok.sh d 60 u hp r2, sp, sp, q _ (.bl true) S H h ok.refl (show V.bl _ = V.bl _ by rw [PySem.SeqAt.eqv_refl d.py l.1])⟩
theorem bo_differ {d : D} (hp : d.pl 60 = true) (hr : Room k X.A) (h : R (.bl false)) : Bo X B (compareOp .NotEq) d d δ R := fun S H σ v u ok r1 r2 Q q => by
  have l := d.pl_lay 60 hp
  have sp : SeqAt.shaped d.py = true := Bool.and_eq_true_iff.mpr ⟨l.1, decide_eq_true (Nat.le_trans l.2 (by decide))⟩
  exact ⟨_, op_neD hr.units, d.py, d.py, D.dp ok.sh d 60 v hp r1, D.dp ok.sh d 60 u hp r2, sp, sp, q _ (.bl false) S H h ok.refl (show V.bl _ = V.bl _ by rw [PySem.SeqAt.eqv_refl d.py l.1]; rfl)⟩
/-! tuples, lists, texts -/
theorem bo_addT {xs ys : List D} (hz : xs.length + ys.length ≤ sizeLine) (h : R (.tup (xs ++ ys))) : Bo X B (binaryOp .Add) (.tup xs) (.tup ys) δ R := fun S H σ v u ok ⟨a, vs, e1, ⟨o1, h1, d1⟩, r1⟩ ⟨b, us, e2, ⟨o2, h2, d2⟩, r2⟩ Q q => by
  subst e1 e2
  have l1 := r1.length
  have l2 := r2.length
  refine ⟨_, op_catF, a, b, vs, us, rfl, rfl, TupF.sq ⟨o1, ok.sh _ _ h1, d1⟩, TupF.sq ⟨o2, ok.sh _ _ h2, d2⟩, by rw [← l1, ← l2]; exact hz, fun e => ?_, fun e e' => ?_, fun _ _ p o np od => ?_⟩
  · have e3 : xs = [] := List.eq_nil_of_length_eq_zero (by rw [l1, e]; rfl)
    subst e3
    exact q _ _ S H h ok.refl ⟨b, us, rfl, ⟨o2, h2, d2⟩, r2⟩
  · have e3 : ys = [] := List.eq_nil_of_length_eq_zero (by rw [l2, e']; rfl)
    subst e3
    rw [List.append_nil] at h
    exact q _ _ S H h ok.refl ⟨a, vs, rfl, ⟨o1, h1, d1⟩, r1⟩
  · have gn := ok.gnew (o := .frz o (.tup (vs ++ us))) np
    exact q _ _ _ _ h gn ⟨p, _, rfl, ⟨o, upd_same, od⟩, (r1.append r2).mono gn.ss⟩
theorem bo_addL {xs ys : List D} (hz : xs.length + ys.length ≤ sizeLine) (h : R (.lst (xs ++ ys))) : Bo X B (binaryOp .Add) (.lst xs) (.lst ys) δ R := fun S H σ v u ok ⟨a, vs, e1, h1, r1⟩ ⟨b, us, e2, h2, r2⟩ Q q => by
  subst e1 e2
  refine ⟨_, op_cat, a, b, vs, us, rfl, rfl, ok.sh _ _ h1, ok.sh _ _ h2, by rw [← r1.length, ← r2.length]; exact hz, fun p np => ?_⟩
  have gn := ok.gnew (o := .lst (vs ++ us)) np
  exact q _ _ _ _ h gn ⟨p, _, rfl, upd_same, (r1.append r2).mono gn.ss⟩
theorem flat_rep {α : Type} (x : α) (n : Nat) : (List.replicate n [x]).flatten = List.replicate n x := by
  induction n with
  | zero => rfl
  | succ n ih => rw [List.replicate_succ, List.flatten_cons, ih]; rfl
theorem bo_mulT {x : D} {n : Int} (h0 : 0 ≤ n) (h1 : n ≤ 1000) (h : R (.tup (List.replicate n.toNat x))) : Bo X B (binaryOp .Mult) (.tup [x]) (.int n) δ R := fun S H σ v u ok ⟨a, vs, e1, ⟨o1, ho, d1⟩, r1⟩ r2 Q q => by
  subst e1
  cases r2
  obtain ⟨w, r, rfl, hw, hr⟩ := r1
  obtain rfl : r = [] := hr
  refine ⟨_, op_repF, a, n, [w], rfl, rfl, TupF.sq ⟨o1, ok.sh _ _ ho, d1⟩, List.cons_ne_nil _ _, h0, h1, by show 1 ≤ 1000; decide, fun e => ?_, fun e p o np od => ?_⟩
  · subst e
    exact q _ _ S H h ok.refl ⟨a, [w], rfl, ⟨o1, ho, d1⟩, ⟨w, [], rfl, hw, rfl⟩⟩
  · rw [flat_rep]
    have gn := ok.gnew (o := .frz o (.tup (List.replicate n.toNat w))) np
    exact q _ _ _ _ h gn ⟨p, _, rfl, ⟨o, upd_same, od⟩, HasL.replicate (hw.mono gn.ss) _⟩
theorem bo_mulS {z w : Str} {n : Int} (h1 : 1 ≤ n) (h2 : n ≤ 1000) (hz : z.length ≤ 1000) (hl : (⟨(List.replicate n.toNat z.cps).foldl (· ++ ·) #[]⟩ : Str).length ≤ sizeLine) (hw : (if n = 1 then z else if z.length = 0 then z else ⟨(List.replicate n.toNat z.cps).foldl (· ++ ·) #[]⟩) = w) (h : R (.str w)) :
    Bo X B (binaryOp .Mult) (.str z) (.int n) δ R := fun S H σ v u ok r1 r2 Q q => by
  cases r1
  cases r2
  exact ⟨_, op_mulS, z, n, rfl, rfl, h1, h2, hz, hl, by rw [hw]; exact q _ (.str w) S H h ok.refl rfl⟩
theorem inV_ints (i : Int) (ns : List Int) : inV (.int i) (ns.map V.int) = decide (i ∈ ns) := by
  rw [Bool.eq_iff_iff, decide_eq_true_iff]
  unfold inV
  rw [List.any_eq_true]
  constructor
  · rintro ⟨y, hy, e⟩
    obtain ⟨n, hn, rfl⟩ := List.mem_map.mp hy
    have e2 : n = i := eq_of_beq (show (n == i) = true from e)
    rw [← e2]; exact hn
  · intro hi
    exact ⟨.int i, List.mem_map.mpr ⟨i, hi, rfl⟩, show (i == i) = true from beq_self_eq_true i⟩
theorem flat_ints (ns : List Int) : (ns.map V.int).all flatV = true := by
  rw [List.all_map]
  exact List.all_eq_true.mpr fun _ _ => rfl
theorem bo_inL {i : Int} {ns : List Int} (h : R (.bl (decide (i ∈ ns)))) : Bo X B (compareOp .In) (.int i) (.lst (ns.map D.int)) δ R := fun S H σ v u ok r1 ⟨a, vs, e2, h2, r2⟩ Q q => by
  cases r1
  subst e2
  obtain rfl := r2.ints
  exact ⟨_, op_in_seq, a, _, rfl, .inl (SqL.of (ok.sh _ _ h2)), rfl, flat_ints ns, q _ (.bl (decide (i ∈ ns))) S H h ok.refl (show V.bl _ = V.bl _ by rw [if_neg Bool.false_ne_true, inV_ints])⟩
theorem bo_inS {c : Nat} {z : Str} {b : Bool} (e : decide (c ∈ z.cps.toList) = b) (h : R (.bl b)) : Bo X B (compareOp .In) (.str ⟨#[c]⟩) (.str z) δ R := fun S H σ v u ok r1 r2 Q q => by
  cases r1
  cases r2
  exact ⟨_, op_in_sign, c, z, rfl, rfl, q _ (.bl b) S H h ok.refl (show V.bl _ = V.bl _ by rw [e])⟩
end
end BA

set_option maxHeartbeats 4000000
namespace BA
open PySem L2 PyProof.Rows
/-! comprehensions -/
def UTs (X : Cx) (ifs : List Expr) : TT := fun σ H Q => ∃ t, PTs X ifs t ∧ t σ H Q
theorem pts_u {X : Cx} (ifs : List Expr) : PTs X ifs (UTs X ifs) := ⟨fun pins s σ H Q I ⟨_, h, q⟩ => h.run pins s σ H Q I q⟩
def Ets (X : Cx) (B : Base) (ifs : List Expr) (δ : List Ent) (T : Bool → Prop) : Prop :=
  ∀ S H σ, Ok X.K B S H σ δ → ∀ Q : Bool → Hp → Prop, (∀ b S' H', T b → Grow (WL σ δ) S H S' H' → Q b H') → UTs X ifs σ H Q
def wipeE (δ : List Ent) : List Nat → List Ent
  | [] => δ
  | v :: vs => (wipeE δ vs).set v .unb
theorem ok_wipe {K : PySem.W.Frag} {B : Base} {S H : Hp} {σ : L2.St} {δ : List Ent} (ok : Ok K B S H σ δ) : ∀ vs, Ok K B S H (wipe σ vs) (wipeE δ vs)
  | [] => ok
  | _ :: vs => (ok_wipe ok vs).drop
theorem wl_wipe {σ : L2.St} {δ : List Ent} {a : Addr} : ∀ vs, WL (wipe σ vs) (wipeE δ vs) a → WL σ δ a
  | [], h => h
  | _ :: vs, h => wl_wipe vs (wl_set (by intro z; cases z) h)
theorem Grow.side {W : Addr → Prop} {S H : Hp} {p : Addr} {o : HO} (h : Ext S H) (n : H p = none) (w : ∀ a, W a → H a ≠ none) : Grow W S H S (upd H p o) := by
  have sn : S p = none := by
    cases q : S p with
    | none => rfl
    | some u => rw [h _ _ q] at n; cases n
  refine ⟨Ext.refl S, fun a u e => ?_, fun a _ z => z, fun a u e _ => ?_, fun a wa e => ?_, fun a ha => ?_⟩
  · rw [upd_ne (ne_of_none (h _ _ e) n)]; exact h _ _ e
  · rw [upd_ne (ne_of_none e n)]; exact e
  · have q : a ≠ p := fun z => w a wa (z ▸ n)
    obtain ⟨x, y, z, e, r⟩ := e
    exact ⟨x, y, z, by rw [upd_ne q]; exact e, r⟩
  · by_cases q : a = p
    · subst q; rw [upd_same]; exact fun z => nomatch z
    · rw [upd_ne q]; exact ha
/-- an object that the start does not know is changed -/
theorem Grow.mut {W : Addr → Prop} {S H S' H' : Hp} {p : Addr} {o : HO} (g : Grow W S H S' H') (n : H p = none) (s : S' p = none) : Grow W S H S' (upd H' p o) := by
  refine ⟨g.ss, fun a u e => ?_, g.fr, fun a u e w => ?_, fun a w e => ?_, fun a h => ?_⟩
  · have q : a ≠ p := fun z => by rw [z, s] at e; cases e
    rw [upd_ne q]; exact g.hs _ _ e
  · rw [upd_ne (ne_of_none e n)]; exact g.kp a u e w
  · obtain ⟨x0, y0, z0, e0, _⟩ := id e
    obtain ⟨x, y, z, e1, r⟩ := g.wk a w e
    exact ⟨x, y, z, by rw [upd_ne (ne_of_none e0 n)]; exact e1, r⟩
  · by_cases q : a = p
    · subst q; rw [upd_same]; exact fun z => nomatch z
    · rw [upd_ne q]; exact g.up a h
section
variable {X : Cx} {B : Base} {δ : List Ent} {R : D → Prop} {T : Bool → Prop} {elt tg iter c : Expr} {ifs : List Expr} {scope : Scope} {own : List (Str × Nat)} {pos : Pos}
theorem ets_nil (h : T true) : Ets X B [] δ T := fun S H σ ok Q q => ⟨_, pts_nil, q true S H h ok.refl⟩
theorem ets_one (h : Et X B c δ T) : Ets X B [c] δ T := fun S H σ ok Q q => ⟨_, pts_one (pt_u c), h S H σ ok Q q⟩
abbrev Blk (X : Cx) (scope : Scope) (s : Shared) (H : Hp) (C : Addr) (cl : List (Str × Addr)) (fp : List Addr) : Cx := X.blk s H scope (compEnvC scope cl C X.env) fp
/-- how a comprehension's target takes an item -/
structure Takes1 (X : Cx) (scope : Scope) (tg : Expr) (vs : List Nat) (g : TG) (okd : D → Prop) (put : D → List Ent → List Ent) : Prop where
  pg : ∀ s H C cl fp, PG (Blk X scope s H C cl fp) tg g
  run : ∀ (B : Base) (S H : Hp) (σ : L2.St) (δ : List Ent) (d : D) (v : V), okd d → Ok X.K B S H (wipe σ vs) δ → Has S d v → ∀ Q : L2.St → Hp → Prop,
    (∀ σ2, Ok X.K B S H σ2 (put d δ) → wipe σ2 vs = wipe σ vs → (∀ a, WL σ2 (put d δ) a → WL (wipe σ vs) δ a) → Q σ2 H) → g v (wipe σ vs) H Q
/-- what a comprehension asks -/
def LcI (X : Cx) (B : Base) (scope : Scope) (vs : List Nat) (δ : List Ent) (elt : Expr) (ifs : List Expr) (okd : D → Prop) (put : D → List Ent → List Ent) (R : D → Prop) (ds : List D) : Prop :=
  (∀ d ∈ ds, okd d) ∧ ∃ I : Nat → List D → Prop, I 0 [] ∧ (∀ i d acc, ds[i]? = some d → I i acc → acc.length < sizeLine ∧ ∀ s H0 C cl fp,
    Ets (Blk X scope s H0 C cl fp) B ifs (put d (wipeE δ vs)) fun k => if k = true then ∀ s H0 C cl fp, Ev (Blk X scope s H0 C cl fp) B elt (put d (wipeE δ vs)) fun y => I (i + 1) (acc ++ [y]) else I (i + 1) acc) ∧ ∀ acc, I ds.length acc → R (.lst acc)
theorem lc_reads {g : TG} {okd : D → Prop} {put : D → List Ent → List Ent} (tk : Takes1 X scope tg (own.map (·.2)) g okd put) (h : Ei X B tg iter δ (LcI X B scope (own.map (·.2)) δ elt ifs okd put R)) {S H : Hp} {σ : L2.St} (ok : Ok X.K B S H σ δ) {Q : VK}
    (q : ∀ v d S' H', R d → Grow (WL σ δ) S H S' H' → Has S' d v → Q v H') :
    tLc (UI X tg iter) g (fun σ H Q => ∀ s H0 C cl fp, UTs (Blk X scope s H0 C cl fp) ifs σ H Q) (fun σ H Q => ∀ s H0 C cl fp, UE (Blk X scope s H0 C cl fp) elt σ H Q) (own.map (·.2)) σ H Q := by
  refine h S H σ ok _ fun ds J S1 H1 ⟨hok, I, i0, turn, fin⟩ g1 dr D nD => ?_
  have ok1 := ok.grow g1
  have sD : S1 D = none := ok1.snone nD
  refine ⟨fun i m H => m = ds.length - i ∧ i ≤ ds.length ∧ ∃ S acc vs, Grow (WL σ δ) S1 H1 S H ∧ S D = none ∧ H D = some (.lst vs) ∧ HasL S acc vs ∧ I i acc, ⟨_, rfl, Nat.zero_le _, S1, [], [], Grow.side ok1.sh nD fun a w => ok1.wne w, sD, upd_same, rfl, i0⟩, ?_⟩
  rintro i m H2 ⟨rfl, hi, S2, acc, vs, g2, s2, h2, r2, j2⟩
  by_cases lt : i < ds.length
  · have e : ds[i]? = some ds[i] := by simp [lt]
    obtain ⟨hz, trn⟩ := turn i _ acc e j2
    have ok2 := ok1.grow g2
    refine .inr ⟨dr.go i _ S2 H2 g2.ss ok2.sh e, fun H' => ∃ S acc vs, Grow (WL σ δ) S1 H1 S H' ∧ S D = none ∧ H' D = some (.lst vs) ∧ HasL S acc vs ∧ I (i + 1) acc, fun H' z => ⟨ds.length - (i + 1), by omega, rfl, lt, z⟩, fun x H3 y => ?_⟩
    obtain ⟨S3, g3, r3⟩ := dr.yld i _ S2 H2 H3 x (WL σ δ) g2.ss ok2.sh (fun a w => ok2.wne w) e y
    have ok3 := ok2.grow g3
    have g13 := g2.trans g3
    have nw : ∀ {H : Hp}, ¬ WL σ δ D := fun w => ok1.wne w nD
    refine tk.run B S3 H3 σ (wipeE δ (own.map (·.2))) _ x (hok _ (List.getElem_mem lt)) (ok_wipe ok3 _) r3 _ fun σ2 ok4 ew wl4 => ⟨ew, fun s H0 C cl fp => ?_⟩
    have wl : ∀ a, WL σ2 (put ds[i] (wipeE δ (own.map (·.2)))) a → WL σ δ a := fun a w => wl_wipe _ (wl4 a w)
    refine trn s H0 C cl fp S3 H3 σ2 ok4 _ fun k S5 H5 t5 g5 => ?_
    have ok5 := ok4.grow g5
    have g15 := g13.trans (g5.imp wl)
    have hne : H2 D ≠ none := by rw [h2]; exact fun z => nomatch z
    cases k with
    | false =>
      refine ⟨S5, acc, vs, g15, ?_, ?_, (r2.mono g3.ss).mono g5.ss, t5⟩
      · exact g5.fr D (g3.up D hne) (g3.fr D hne s2)
      · exact (g5.imp wl).kp D _ (g3.kp D _ h2 (nw (H := H2))) (nw (H := H2))
    | true =>
      show ∀ s H0 C cl fp, UE (Blk X scope s H0 C cl fp) elt σ2 H5 _
      intro s' H0' C' cl' fp'
      refine t5 s' H0' C' cl' fp' S5 H5 σ2 ok5 _ fun v y S6 H6 t6 g6 r6 => ?_
      have h5 : H5 D = some (.lst vs) := (g5.imp wl).kp D _ (g3.kp D _ h2 (nw (H := H2))) (nw (H := H2))
      have s6 : S6 D = none := g6.fr D (by rw [h5]; exact fun z => nomatch z) (g5.fr D (g3.up D hne) (g3.fr D hne s2))
      have h6 : H6 D = some (.lst vs) := (g6.imp wl).kp D _ h5 (nw (H := H2))
      have g16 := g15.trans (g6.imp wl)
      have r26 := ((r2.mono g3.ss).mono g5.ss).mono g6.ss
      exact ⟨vs, h6, by rw [← r2.length]; exact hz, S6, acc ++ [y], vs ++ [v], g16.mut nD s6, s6, upd_same, r26.append (HasL.one r6), t6⟩
  · have e : i = ds.length := by omega
    subst e
    refine .inl ⟨dr.stop S2 H2 g2.ss (ok1.grow g2).sh, q (.ref D) (.lst acc) (upd S2 D (.lst vs)) H2 (fin acc j2) ?_ ⟨D, vs, rfl, upd_same, r2.mono (Ext.upd s2)⟩⟩
    have g := g1.trans g2
    refine ⟨g.ss.trans (Ext.upd s2), fun a u z => ?_, fun a ha sa => ?_, g.kp, g.wk, g.up⟩
    · by_cases e : a = D
      · subst e; rw [upd_same] at z; cases z; exact h2
      · rw [upd_ne e] at z; exact g.hs _ _ z
    · have ne : a ≠ D := fun z => (g1.up a ha) (z ▸ nD)
      rw [upd_ne ne]; exact g.fr a ha sa
theorem ev_lcG {g : TG} {okd : D → Prop} {put : D → List Ent → List Ent} (hc : X.calm = true) (hN : X.N.Nodup) (ok : BlkOk X.N X.env.scope scope own) (tk : Takes1 X scope tg (own.map (·.2)) g okd put) (h : Ei X B tg iter δ (LcI X B scope (own.map (·.2)) δ elt ifs okd put R))
    (hs : ∀ x, foldedSetIterable iter X.env x = pure x := by intro _; rfl) : Ev X B (.ListComp elt [⟨tg, iter, ifs, 0⟩] scope pos) δ R := fun S H σ ok' Q q =>
  ⟨_, pe_lc hc hN (pi_u tg iter) ok tk.pg (fun s H C cl fp => ⟨fun pins s' σ H' Q I z => (pts_u ifs).run pins s' σ H' Q I (z s H C cl fp)⟩) (fun s H C cl fp => ⟨fun pins s' σ H' Q I z => (pe_u elt).run pins s' σ H' Q I (z s H C cl fp)⟩) hs, lc_reads tk h ok' q⟩
/-- y = [..] on one line, y a local -/
theorem ex_setLc {g : TG} {okd : D → Prop} {put : D → List Ent → List Ent} {p : Post} (i : Nat) {y : Str} {py spos : Pos} (hc : X.calm = true) (hN : X.N.Nodup) (ok : BlkOk X.N X.env.scope scope own) (tk : Takes1 X scope tg (own.map (·.2)) g okd put)
    (h : Ei X B tg iter δ (LcI X B scope (own.map (·.2)) δ elt ifs okd put fun d => p.n (δ.set i (.dat d)))) (hsw : swapsWith (.ListComp elt [⟨tg, iter, ifs, 0⟩] scope pos) (some (.Name y py)) spos.line X.env = pure true)
    (hy : X.N[i]? = some y := by rfl) (hyl : X.env.scope.names.lookup y = some .local := by rfl) (hs : ∀ x, foldedSetIterable iter X.env x = pure x := by intro _; rfl) : Ex X B (.Assign [.Name y py] (.ListComp elt [⟨tg, iter, ifs, 0⟩] scope pos) spos) δ p := fun S H σ ok' E m =>
  ⟨_, ps_setLc (i := i) hc hN hy hyl hsw (pi_u tg iter) ok tk.pg (fun s H C cl fp => ⟨fun pins s' σ H' Q I z => (pts_u ifs).run pins s' σ H' Q I (z s H C cl fp)⟩) (fun s H C cl fp => ⟨fun pins s' σ H' Q I z => (pe_u elt).run pins s' σ H' Q I (z s H C cl fp)⟩) hs,
    lc_reads tk h ok' fun v d S1 H1 hp g1 r1 => m.n _ _ _ _ g1.ss ((ok'.grow g1).put r1) hp⟩
theorem set_set_same {α : Type} (l : List α) (i : Nat) (a b : α) : (l.set i a).set i b = l.set i b := List.set_set ..
/-- for x in .. : one name -/
theorem takes_name (i : Nat) {x : Str} {px : Pos} (hN : X.N.Nodup) (hi : X.N[i]? = some x) (hx : ∀ s H C cl fp, Loc (Blk X scope s H C cl fp).env.scope x) (hf : ∀ s H C cl fp, (Blk X scope s H C cl fp).fn x = true ∨ (Blk X scope s H C cl fp).env.scope.names.lookup x = some .local) :
    Takes1 X scope (.Name x px) [i] (gName i) (fun _ => True) fun d δ => δ.set i (.dat d) where
  pg := fun s H C cl fp => pg_name (X := Blk X scope s H C cl fp) hN hi (hx s H C cl fp) (hf s H C cl fp)
  run := fun B S H σ δ d v _ ok r Q q => q _ (ok.put r) (by show ((σ.set i none).set i (some v)).set i none = σ.set i none; rw [List.set_set, List.set_set]) fun a w => wl_set (by intro z; cases z) w
/-- for x, y in .. -/
def IsPair : D → Prop
  | .tup ds => ds.length = 2
  | .tpw ds => ds.length = 2
  | _ => False
def putPair (i j : Nat) : D → List Ent → List Ent
  | .tup [a, b], δ => (δ.set i (.dat a)).set j (.dat b)
  | .tpw [a, b], δ => (δ.set i (.dat a)).set j (.dat b)
  | _, δ => δ
theorem takes_pair (i j : Nat) {x y : Str} {px py pt : Pos} {kk : Nat} (hij : i ≠ j) (hc : X.calm = true) (hN : X.N.Nodup) (hi : X.N[i]? = some x) (hj : X.N[j]? = some y) (hx : ∀ s H C cl fp, Loc (Blk X scope s H C cl fp).env.scope x) (hy : ∀ s H C cl fp, Loc (Blk X scope s H C cl fp).env.scope y)
    (hf : ∀ s H C cl fp, (Blk X scope s H C cl fp).fn x = true ∨ (Blk X scope s H C cl fp).env.scope.names.lookup x = some .local) (hf2 : ∀ s H C cl fp, (Blk X scope s H C cl fp).fn y = true ∨ (Blk X scope s H C cl fp).env.scope.names.lookup y = some .local) :
    Takes1 X scope (.Tuple [.Name x px, .Name y py] kk pt) [i, j] (gTup X.K 2 (gCons (gName i) (gCons (gName j) gNil))) IsPair (putPair i j) where
  pg := fun s H C cl fp => pg_tup (X := Blk X scope s H C cl fp) hc (pgs_cons (pg_name hN hi (hx s H C cl fp) (hf s H C cl fp)) (pgs_cons (pg_name hN hj (hy s H C cl fp) (hf2 s H C cl fp)) pgs_nil)) rfl rfl
  run := fun B S H σ δ d v hp ok r Q q => by
    have fin : ∀ (a : Addr) (vs : List V) (d1 d2 : D), SqT X.K H a vs → HasL S [d1, d2] vs → (∀ σ2, Ok X.K B S H σ2 ((δ.set i (.dat d1)).set j (.dat d2)) → wipe σ2 [i, j] = wipe σ [i, j] → (∀ a, WL σ2 ((δ.set i (.dat d1)).set j (.dat d2)) a → WL (wipe σ [i, j]) δ a) → Q σ2 H) →
        gTup X.K 2 (gCons (gName i) (gCons (gName j) gNil)) (.ref a) (wipe σ [i, j]) H Q := fun a vs d1 d2 hs hl q => by
      obtain ⟨v1, r1, rfl, h1, v2, r2, rfl, h2, rfl⟩ := hl
      refine ⟨a, [v1, v2], rfl, hs, rfl, v1, [v2], rfl, v2, [], rfl, rfl, q _ ((ok.put h1).put h2) ?_ fun a w => wl_set (by intro z; cases z) (wl_set (by intro z; cases z) w)⟩
      show (((((σ.set j none).set i none).set i (some v1)).set j (some v2)).set j none).set i none = (σ.set j none).set i none
      simp only [List.set_set, List.set_comm _ _ (Ne.symm hij)]
    cases d with
    | tup ds =>
      obtain ⟨a, vs, rfl, ⟨o, ho, hd⟩, hl⟩ := r
      match ds, hp, hl, q with
      | [d1, d2], _, hl, q => exact fin a vs d1 d2 (TupF.sq ⟨o, ok.sh _ _ ho, hd⟩) hl q
    | tpw ds =>
      obtain ⟨a, vs, rfl, ho, hl⟩ := r
      match ds, hp, hl, q with
      | [d1, d2], _, hl, q => exact fin a vs d1 d2 (SqT.of (ok.sh _ _ ho)) hl q
    | _ => exact hp.elim
end
end BA

set_option maxHeartbeats 4000000
namespace BA
open PySem L2 PyProof.Rows
section
variable {X : Cx} {B : Base} {δ : List Ent} {R : D → Prop} {e a b c : Expr} {es : List Expr} {pos : Pos} {p : Post} {k : Nat}
/-! built-ins -/
theorem ev_callB {id : String} {x : Str} {p1 : Pos} (hm : X.mg x = none) (hv : bootBuiltins x = some (.builtin id)) (h : Ea X B (e :: es) δ fun as => Bc X B (.builtin id) as δ R) (hg : Gl X x := by rfl) (hn : x ≠ "__name__" := by decide) (hdb : (x == ("__debug__" : Str)) = false := by decide)
    (he : starEach (e :: es) X.env = (false, eval e X.env) :: starEach es X.env := by rfl) (hpl : (backTo pos (starEach es X.env)).any (·.1) = false := by rfl) : Ev X B (.Call (.Name x p1) (e :: es) [] pos) δ R := fun S H σ ok Q q =>
  ⟨_, pe_callB (ca_u _) hg hm hv (pa_u _) hn hdb he hpl, h S H σ ok _ fun vs as S1 H1 h1 g1 r1 => h1 S1 H1 σ vs (ok.grow g1) r1 Q fun v d S2 H2 z g2 r2 => q v d S2 H2 z (g1.trans g2) r2⟩
theorem ev_callTy {T : String} {x : Str} {p1 : Pos} (hm : X.mg x = none) (hv : bootBuiltins x = some (.type T)) (h : Ea X B (e :: es) δ fun as => Bc X B (.type T) as δ R) (hg : Gl X x := by rfl) (hn : x ≠ "__name__" := by decide) (hdb : (x == ("__debug__" : Str)) = false := by decide)
    (he : starEach (e :: es) X.env = (false, eval e X.env) :: starEach es X.env := by rfl) (hpl : (backTo pos (starEach es X.env)).any (·.1) = false := by rfl) : Ev X B (.Call (.Name x p1) (e :: es) [] pos) δ R := fun S H σ ok Q q =>
  ⟨_, pe_callTy (ca_u _) hg hm hv (pa_u _) hn hdb he hpl, h S H σ ok _ fun vs as S1 H1 h1 g1 r1 => h1 S1 H1 σ vs (ok.grow g1) r1 Q fun v d S2 H2 z g2 r2 => q v d S2 H2 z (g1.trans g2) r2⟩
theorem bc_lenT {xs : List D} (h : R (.int (xs.length : Nat))) : Bc X B (.builtin "len") [.dat (.tup xs)] δ R := fun S H σ vs ok ⟨v, r, e1, ⟨a, us, e2, ⟨o, ho, hd⟩, hl⟩, e3⟩ Q q => by
  obtain rfl : r = [] := e3
  subst e1 e2
  exact ⟨_, call_len_seq, a, us, rfl, .inr (TupF.sq ⟨o, ok.sh _ _ ho, hd⟩), q _ (.int (xs.length : Nat)) S H h ok.refl (show V.int _ = V.int _ by rw [hl.length])⟩
theorem bc_lenL {xs : List D} (h : R (.int (xs.length : Nat))) : Bc X B (.builtin "len") [.dat (.lst xs)] δ R := fun S H σ vs ok ⟨v, r, e1, ⟨a, us, e2, ho, hl⟩, e3⟩ Q q => by
  obtain rfl : r = [] := e3
  subst e1 e2
  exact ⟨_, call_len_seq, a, us, rfl, .inl (SqL.of (ok.sh _ _ ho)), q _ (.int (xs.length : Nat)) S H h ok.refl (show V.int _ = V.int _ by rw [hl.length])⟩
theorem bc_lenS {z : Str} (hz : z.length ≤ sizeLine) (h : R (.int (z.length : Nat))) : Bc X B (.builtin "len") [.dat (.str z)] δ R := fun S H σ vs ok ⟨v, r, e1, e2, e3⟩ Q q => by
  obtain rfl : r = [] := e3
  subst e1
  obtain rfl : v = .str z := e2
  exact ⟨_, call_len, .str z, z.length, rfl, ⟨hz, rfl⟩, q _ (.int (z.length : Nat)) S H h ok.refl rfl⟩
theorem bc_max2 {i j : Int} (hc : X.calm = true) (h : R (.int (if j > i then j else i))) : Bc X B (.builtin "max") [.dat (.int i), .dat (.int j)] δ R := fun S H σ vs ok ⟨v, r, e1, e2, w, r2, e3, e4, e5⟩ Q q => by
  obtain rfl : r2 = [] := e5
  subst e3 e1
  obtain rfl : v = .int i := e2
  obtain rfl : w = .int j := e4
  exact ⟨_, call_max2 hc, i, j, rfl, q _ (.int (if j > i then j else i)) S H h ok.refl rfl⟩
theorem bc_maxL {ns : List Int} (hc : X.calm = true) (hn : 0 < ns.length) (h : ∀ m, m ∈ ns → (∀ y, y ∈ ns → y ≤ m) → R (.int m)) : Bc X B (.builtin "max") [.dat (.lst (ns.map D.int))] δ R := fun S H σ vs ok ⟨v, r, e1, ⟨a, us, e2, ho, hl⟩, e3⟩ Q q => by
  obtain rfl : r = [] := e3
  subst e1 e2
  obtain rfl := hl.ints
  exact ⟨_, cr_max hc, a, ns, rfl, SqL.of (ok.sh _ _ ho), hn, fun m hm hle => q _ (.int m) S H (h m hm hle) ok.refl rfl⟩
theorem HasL.bls {S : Hp} : ∀ {bs : List Bool} {vs : List V}, HasL S (bs.map D.bl) vs → vs = bs.map V.bl
  | [], _, h => h
  | _ :: _, _, ⟨v, r, q, h1, h2⟩ => by rw [q, show v = _ from h1, HasL.bls h2]; rfl
theorem HasL.strs {S : Hp} : ∀ {bs : List Str} {vs : List V}, HasL S (bs.map D.str) vs → vs = bs.map V.str
  | [], _, h => h
  | _ :: _, _, ⟨v, r, q, h1, h2⟩ => by rw [q, show v = _ from h1, HasL.strs h2]; rfl
theorem bc_all {bs : List Bool} (hc : X.calm = true) (h : R (.bl (bs.all id))) : Bc X B (.builtin "all") [.dat (.lst (bs.map D.bl))] δ R := fun S H σ vs ok ⟨v, r, e1, ⟨a, us, e2, ho, hl⟩, e3⟩ Q q => by
  obtain rfl : r = [] := e3
  subst e1 e2
  obtain rfl := hl.bls
  exact ⟨_, cr_all hc, a, bs, rfl, SqL.of (ok.sh _ _ ho), q _ (.bl (bs.all id)) S H h ok.refl rfl⟩
theorem bc_tuple {xs : List D} (h : R (.tup xs)) : Bc X B (.type "tuple") [.dat (.lst xs)] δ R := fun S H σ vs ok ⟨v, r, e1, ⟨a, us, e2, ho, hl⟩, e3⟩ Q q => by
  obtain rfl : r = [] := e3
  subst e1 e2
  refine ⟨_, call_tupleF, a, us, rfl, SqL.of (ok.sh _ _ ho), fun p o np od => ?_⟩
  have gn := ok.gnew (o := .frz o (.tup us)) np
  exact q _ _ _ _ h gn ⟨p, us, rfl, ⟨o, upd_same, od⟩, hl.mono gn.ss⟩
theorem bc_list {xs : List D} (h : R (.lst xs)) : Bc X B (.type "list") [.dat (.lst xs)] δ R := fun S H σ vs ok ⟨v, r, e1, ⟨a, us, e2, ho, hl⟩, e3⟩ Q q => by
  obtain rfl : r = [] := e3
  subst e1 e2
  refine ⟨_, call_list_of, a, us, rfl, .inl (SqL.of (ok.sh _ _ ho)), fun p np => ?_⟩
  have gn := ok.gnew (o := .lst us) np
  exact q _ _ _ _ h gn ⟨p, us, rfl, upd_same, hl.mono gn.ss⟩
theorem bc_intB {k : Bool} (h : R (.int (if k then 1 else 0))) : Bc X B (.type "int") [.dat (.bl k)] δ R := fun S H σ vs ok ⟨v, r, e1, e2, e3⟩ Q q => by
  obtain rfl : r = [] := e3
  subst e1
  obtain rfl : v = .bl k := e2
  exact ⟨_, call_int1, .inr ⟨k, rfl, q _ (.int (if k then 1 else 0)) S H h ok.refl rfl⟩⟩
/-- list(range(n)), list(range(a, b)) as data -/
abbrev rgD (a b : Int) : List D := (List.range (b - a).toNat).map fun i => D.int (a + (i : Nat))
theorem rg_has {S : Hp} {a : Int} : ∀ is : List Nat, HasL S (is.map fun i => D.int (a + (i : Nat))) (is.map fun i => V.int (a + (i : Nat)))
  | [] => rfl
  | _ :: is => ⟨_, _, rfl, rfl, rg_has is⟩
def UR (X : Cx) (e : Expr) : L2.St → Hp → (Int → Int → Hp → Prop) → Prop := fun σ H Q => ∃ t, PRg X e t ∧ t σ H Q
theorem prg_u (e : Expr) : PRg X e (UR X e) := fun pins s σ H Q I ⟨_, h, q⟩ => h pins s σ H Q I q
def Er (X : Cx) (B : Base) (e : Expr) (δ : List Ent) (R : Int → Int → Prop) : Prop :=
  ∀ S H σ, Ok X.K B S H σ δ → ∀ Q : Int → Int → Hp → Prop, (∀ i j S' H', R i j → Grow (WL σ δ) S H S' H' → Q i j H') → UR X e σ H Q
theorem er_1 {R : Int → Int → Prop} {p1 : Pos} (hm : X.mg "range" = none) (h : Ev X B a δ fun d => ∃ n, d = .int n ∧ R 0 n) (hg : Gl X "range" := by rfl) (na : starEach [a] X.env = (false, eval a X.env) :: starEach [] X.env := by rfl) : Er X B (.Call (.Name "range" p1) [a] [] pos) δ R := fun S H σ ok Q q =>
  ⟨_, prg_1 hg hm (pe_u a) na, h S H σ ok _ fun v d S1 H1 ⟨n, e, z⟩ g1 r1 => by
    subst e
    exact ⟨n, r1, q 0 n S1 H1 z g1⟩⟩
theorem er_2 {R : Int → Int → Prop} {p1 : Pos} (hm : X.mg "range" = none) (h : Ev X B a δ fun d => Ev X B b δ fun f => ∃ i j, d = .int i ∧ f = .int j ∧ R i j) (hg : Gl X "range" := by rfl) (na : starEach [a, b] X.env = (false, eval a X.env) :: starEach [b] X.env := by rfl)
    (nb : starEach [b] X.env = (false, eval b X.env) :: starEach [] X.env := by rfl) (hp : (backTo pos (starEach [b] X.env)).any (·.1) = false := by rfl) : Er X B (.Call (.Name "range" p1) [a, b] [] pos) δ R := fun S H σ ok Q q =>
  ⟨_, prg_2 hg hm (pe_u a) (pe_u b) na nb hp, h S H σ ok _ fun v d S1 H1 h1 g1 r1 => h1 S1 H1 σ (ok.grow g1) _ fun u f S2 H2 ⟨i, j, e1, e2, z⟩ g2 r2 => by
    subst e1 e2
    exact ⟨i, j, r1, r2, q i j S2 H2 z (g1.trans g2)⟩⟩
theorem ev_listRg {p1 : Pos} (hc : X.calm = true) (hm : X.mg "list" = none) (h : Er X B e δ fun i j => RgOk i j ∧ R (.lst (rgD i j))) (hg : Gl X "list" := by rfl) (na : starEach [e] X.env = (false, eval e X.env) :: starEach [] X.env := by rfl) : Ev X B (.Call (.Name "list" p1) [e] [] pos) δ R := fun S H σ ok Q q =>
  ⟨_, pe_listRg hc hg hm (prg_u e) na, h S H σ ok _ fun i j S1 H1 ⟨rg, z⟩ g1 => ⟨rg, fun p np => by
    have gn := (ok.grow g1).gnew (o := .lst (rgV i j)) np
    exact q _ _ _ _ z (g1.trans gn) ⟨p, _, rfl, upd_same, rg_has _⟩⟩⟩
/-- a list of one's own is new: x = e, e a call that lays a new list -/
theorem ex_ownRg (i : Nat) {x : Str} {pos' p1 ps : Pos} (hN : X.N.Nodup) (hc : X.calm = true) (hm : X.mg "list" = none) (h : Er X B e δ fun u v => RgOk u v ∧ p.n (δ.set i (.own .l (rgD u v)))) (hg : Gl X "list" := by rfl) (na : starEach [e] X.env = (false, eval e X.env) :: starEach [] X.env := by rfl)
    (hi : X.N[i]? = some x := by rfl) (hx : Loc X.env.scope x := by first | exact .inl rfl | exact .inr rfl) (hs : swapsWith (.Call (.Name "list" p1) [e] [] ps) (some (.Name x pos')) pos.line X.env = pure false := by rfl)
    (hf : X.fn x = true ∨ X.env.scope.names.lookup x = some .local := by first | exact .inl rfl | exact .inr rfl | assumption) : Ex X B (.Assign [.Name x pos'] (.Call (.Name "list" p1) [e] [] ps) pos) δ p := fun S H σ ok E m =>
  ⟨_, ps_set (i := i) hN hi hx (pe_listRg hc hg hm (prg_u e) na) hs hf, h S H σ ok _ fun u v S1 H1 ⟨rg, z⟩ g1 => ⟨rg, fun q nq => by
    have ok1 := ok.grow g1
    have n0 : B.H0 q = none := by
      cases e : B.H0 q with
      | none => rfl
      | some u => exact absurd nq (ok1.base.up q (by rw [e]; exact fun z => nomatch z))
    refine m.n _ _ _ _ g1.ss (ok1.putOwn (i := i) (kd := .l) (vs := rgV u v) (a := q) (ok1.snone nq) (fun w => ok1.wne w nq) n0 (fun j k ys _ hj hs => ?_) (rg_has _) True.intro) z
    obtain ⟨b, us, o⟩ := ok1.ownAt hj
    have e2 : b = q := by have e3 := o.sl; rw [hs] at e3; cases e3; rfl
    have e3 := o.h0
    rw [e2, nq] at e3
    cases e3⟩⟩
/-! isinstance -/
def D.ty : D → Option String
  | .non => some "NoneType" | .bl _ => some "bool" | .int _ => some "int" | .str _ => some "str" | .tup _ => some "tuple" | .lst _ => some "list"
  | _ => none
theorem Has.ty {K : PySem.W.Frag} {S H : Hp} (sh : Ext S H) {v : V} {t : String} : ∀ {d : D}, Has S d v → d.ty = some t → TyX K H v (.type t)
  | .non, h, e => by cases e; rw [show v = _ from h]; exact .base .non
  | .bl b, h, e => by cases e; rw [show v = _ from h]; exact .base (.bl b)
  | .int i, h, e => by cases e; rw [show v = _ from h]; exact .base (.int i)
  | .str i, h, e => by cases e; rw [show v = _ from h]; exact .base (.str i)
  | .tup _, ⟨a, vs, h, ⟨o, ho, _⟩, _⟩, e => by cases e; rw [h]; exact .fTuple (sh _ _ ho)
  | .lst _, ⟨a, vs, h, ho, _⟩, e => by cases e; rw [h]; exact .base (.lst (sh _ _ ho))
  | .ins _ _ _, _, e => by cases e
  | .dic _, _, e => by cases e
  | .tpw _, _, e => by cases e
theorem ev_isi {n : Str} {T t : String} {k : Bool} {p1 p2 : Pos} (hm : X.mg "isinstance" = none) (hmn : X.mg n = none) (hv : bootBuiltins n = some (.type T)) (hk : kitB t T = some k) (h : Ev X B e δ fun d => d.ty = some t ∧ R (.bl k)) (hg : Gl X "isinstance" := by rfl) (hgn : Gl X n := by rfl)
    (hn : n ≠ "__name__" := by decide) (hdn : (n == ("__debug__" : Str)) = false := by decide) (he : starEach [e, .Name n p2] X.env = (false, eval e X.env) :: starEach [.Name n p2] X.env := by rfl) (he2 : starEach [.Name n p2] X.env = (false, eval (.Name n p2) X.env) :: starEach [] X.env := by rfl) (hpl : (backTo pos (starEach [.Name n p2] X.env)).any (·.1) = false := by rfl) :
    Ev X B (.Call (.Name "isinstance" p1) [e, .Name n p2] [] pos) δ R := fun S H σ ok Q q =>
  ⟨_, pe_callB call_isi hg hm (by decide +kernel) (pa_cons (pe_u e) (pa_cons (pe_bltn (v := .ty T) hgn hmn hv rfl hn hdn) pa_nil he2) he) (by decide) (by decide) he hpl, h S H σ ok _ fun v d S1 H1 ⟨ht, z⟩ g1 r1 =>
    ⟨v, .ty T, _, _, k, rfl, .ty T, r1.ty g1.hs ht, kit_ty hk, q _ (.bl k) S1 H1 z g1 rfl⟩⟩
/-- what of a class isinstance asks -/
structure ClsI (K : PySem.W.Frag) (C : Addr) : Prop where
  cl : Cls K C
  ha : PySem.W.findIn K (.ref C) "__class__" = some (some (.builtin "object.__class__"))
  hn : PySem.W.specialIn K (.builtin "object.__class__") "__get__" = some (some (.builtin "getset_descriptor.__get__"))
  ht : PySem.W.takesIn K (.builtin "object.__class__") = some true
  hm : PySem.W.mroIn K C (.type "object") = some true
  self : PySem.W.kitOne K (.ref C) (.ref C) = some true
theorem ev_isiO {n : Str} {C : Addr} {p1 p2 : Pos} (hm : X.mg "isinstance" = none) (hmn : X.mg n = some (.ref C)) (cl : ClsI X.K C) (h : Ev X B e δ fun d => ∃ ns xs, d = .ins C ns xs ∧ R (.bl true)) (hg : Gl X "isinstance" := by rfl) (hgn : Gl X n := by rfl)
    (hdn : (n == ("__debug__" : Str)) = false := by decide) (he : starEach [e, .Name n p2] X.env = (false, eval e X.env) :: starEach [.Name n p2] X.env := by rfl) (he2 : starEach [.Name n p2] X.env = (false, eval (.Name n p2) X.env) :: starEach [] X.env := by rfl) (hpl : (backTo pos (starEach [.Name n p2] X.env)).any (·.1) = false := by rfl) :
    Ev X B (.Call (.Name "isinstance" p1) [e, .Name n p2] [] pos) δ R := fun S H σ ok Q q =>
  ⟨_, pe_callB call_isi hg hm (by decide +kernel) (pa_cons (pe_u e) (pa_cons (pe_glob (v := .ref C) hgn hmn rfl hdn) pa_nil he2) he) (by decide) (by decide) he hpl, h S H σ ok _ fun v d S1 H1 ⟨ns, xs, e1, z⟩ g1 r1 => by
    subst e1
    obtain ⟨a, dx, vs, rfl, sa, _, _⟩ := r1
    exact ⟨.ref a, .ref C, _, _, true, rfl, .own C, .base (.ins (g1.hs _ _ sa) cl.cl cl.ha cl.hn cl.ht cl.hm), cl.self, q _ (.bl true) S1 H1 z g1 rfl⟩⟩
/-! len of an own class, != of an own class -/
theorem ev_lenO {C : Addr} {f : Addr} {fd : FuncData} {ps : List Str} {c : Con} {p1 : Pos} (F : FnOk X.prog X.w X.K X.mg X.base CX0 k f fd ps (spOf c)) (hr : Room (k + 1) X.A) (hb : Binds X.K fd ps []) (hs : PySem.W.findIn X.K (.ref C) "__len__" = some (some (.ref f))) (hf : PySem.W.isFn X.K (.ref f) = true) (hm : X.mg "len" = none)
    (h : Ev X B e δ fun d => ∃ ns xs, d = .ins C ns xs ∧ c.run [.dat d] fun y => ∃ n : Int, y = .int n ∧ 0 ≤ n ∧ n < 2 ^ 63 ∧ R (.int n)) (hg : Gl X "len" := by rfl) (he : starEach [e] X.env = (false, eval e X.env) :: starEach [] X.env := by rfl) (hpl : (backTo pos (starEach [] X.env)).any (·.1) = false := by rfl) :
    Ev X B (.Call (.Name "len" p1) [e] [] pos) δ R := fun S H σ ok Q q =>
  ⟨_, pe_callB (call_lenO F hr hb hs hf) hg hm PySem.boot_len (pa_cons (pe_u e) pa_nil he) (by decide) (by decide) he hpl, h S H σ ok _ fun v d S1 H1 ⟨ns, xs, e1, y, e2, pre, post⟩ g1 r1 => by
    subst e1
    obtain ⟨a, dx, vs, rfl, sa, hl, hx⟩ := r1
    have ok1 := ok.grow g1
    refine ⟨a, dx, _, rfl, g1.hs _ _ sa, S1, WL σ δ, y, ok1.sh, fun b w => ok1.well w, ?_, pre, fun v d S' H' z g r => ?_⟩
    · rw [← e2]
      exact ⟨_, [], rfl, ⟨a, dx, vs, rfl, sa, hl, hx⟩, rfl⟩
    · obtain ⟨n, rfl, h0, h1, z⟩ := post d z
      exact ⟨n, r, h0, h1, q _ (.int n) S' H' z (g1.trans g) rfl⟩⟩
theorem bo_neO {C f : Addr} {fd : FuncData} {ps : List Str} {c : Con} {ns : List Str} {xs ys : List D} (F : FnOk X.prog X.w X.K X.mg X.base CX0 k f fd ps (spOf c)) (hr : Room (k + 1) X.A) (hb : Binds X.K fd ps []) (hne : PySem.W.findIn X.K (.ref C) "__ne__" = some (some (.builtin "object.__ne__")))
    (heq : PySem.W.findIn X.K (.ref C) "__eq__" = some (some (.ref f))) (hf : PySem.W.isFn X.K (.ref f) = true) (hm : PySem.W.mroIn X.K C (.type "object") = some true)
    (h : c.run [.dat (.ins C ns xs), .dat (.ins C ns ys)] fun d => ∃ r : Bool, d = .bl r ∧ R (.bl (!r))) : Bo X B (compareOp .NotEq) (.ins C ns xs) (.ins C ns ys) δ R := fun S H σ v u ok r1 r2 Q q => by
  obtain ⟨a, dx, vs, rfl, sa, hl, hx⟩ := r1
  obtain ⟨b, dy, us, rfl, sb, hl2, hy⟩ := r2
  obtain ⟨y, e, pre, post⟩ := h
  refine ⟨_, op_neO F hr hb hne heq hf hm, a, b, dx, dy, _, _, rfl, rfl, ok.sh _ _ sa, ok.sh _ _ sb, S, WL σ δ, y, ok.sh, fun b w => ok.well w, ?_, pre, fun v d S' H' z g r => ?_⟩
  · rw [← e]
    exact ⟨_, _, rfl, ⟨a, dx, vs, rfl, sa, hl, hx⟩, _, [], rfl, ⟨b, dy, us, rfl, sb, hl2, hy⟩, rfl⟩
  · obtain ⟨k, rfl, z2⟩ := post d z
    exact ⟨k, r, q _ (.bl (!k)) S' H' z2 g rfl⟩
end
end BA

set_option maxHeartbeats 4000000
namespace BA
open PySem L2 PyProof.Rows
def UX (X : Cx) : R2 := fun x y H Q => ∃ r, IxR X r ∧ r x y H Q
theorem ix_u {X : Cx} : IxR X (UX X) := fun value slice pins s σ H x y v u Q I rx ry ⟨_, h, q⟩ hs => h value slice pins s σ H x y v u Q I rx ry q hs
def USl (X : Cx) : V → Option Int → Option Int → Hp → VK → Prop := fun x l u H Q => ∃ r, SlR X r ∧ r x l u H Q
theorem sl_u {X : Cx} : SlR X (USl X) := fun pins s σ H x v vl vu lo hi sl Q I rx hs pl pu ⟨_, h, q⟩ => h pins s σ H x v vl vu lo hi sl Q I rx hs pl pu q
def UPO (X : Cx) (e : Option Expr) : TO := fun σ H Q => ∃ t, PO X e t ∧ t σ H Q
theorem po_u {X : Cx} (e : Option Expr) : PO X e (UPO X e) := ⟨fun pins s σ H Q I ⟨_, h, q⟩ => h.run pins s σ H Q I q⟩
def Bix (X : Cx) (B : Base) (x y : D) (δ : List Ent) (R : D → Prop) : Prop :=
  ∀ S H σ v u, Ok X.K B S H σ δ → Has S x v → Has S y u → ∀ Q : VK, (∀ v d S' H', R d → Grow (WL σ δ) S H S' H' → Has S' d v → Q v H') → UX X v u H Q
def Eo (X : Cx) (B : Base) (e : Option Expr) (δ : List Ent) (R : Option Int → Prop) : Prop :=
  ∀ S H σ, Ok X.K B S H σ δ → ∀ Q : Option Int → Hp → Prop, (∀ o S' H', R o → Grow (WL σ δ) S H S' H' → Q o H') → UPO X e σ H Q
def Bsl (X : Cx) (B : Base) (x : D) (l u : Option Int) (δ : List Ent) (R : D → Prop) : Prop :=
  ∀ S H σ v, Ok X.K B S H σ δ → Has S x v → ∀ Q : VK, (∀ v d S' H', R d → Grow (WL σ δ) S H S' H' → Has S' d v → Q v H') → USl X v l u H Q
/-- a slice of data -/
def cutD (xs : List D) (l u : Option Int) : List D := (xs.drop (HT.sIx xs.length 0 l)).take (HT.sIx xs.length xs.length u - HT.sIx xs.length 0 l)
theorem cut_has {S : Hp} {xs : List D} {vs : List V} (h : HasL S xs vs) {l u : Option Int} : HasL S (cutD xs l u) (cutV vs l u) := by
  unfold cutD cutV
  rw [← h.length]
  exact (h.drop _).take _
theorem cut_whole {xs : List D} {l u : Option Int} (h : HT.sIx xs.length 0 l = 0 ∧ HT.sIx xs.length xs.length u = xs.length) : cutD xs l u = xs := by
  unfold cutD
  rw [h.1, h.2, List.drop_zero, Nat.sub_zero, List.take_length]
theorem cut_to (xs : List D) {k : Int} (h : 0 ≤ k) : cutD xs none (some k) = xs.take k.toNat := by
  obtain ⟨n, rfl⟩ := Int.eq_ofNat_of_zero_le h
  unfold cutD
  rw [HT.sIx_none, HT.sIx_nat, List.drop_zero, Nat.sub_zero]
  show xs.take (min n xs.length) = xs.take n
  by_cases q : n ≤ xs.length
  · rw [Nat.min_eq_left q]
  · rw [Nat.min_eq_right (by omega), List.take_length, List.take_of_length_le (by omega)]
theorem cut_from (xs : List D) {k : Int} (h : 0 ≤ k) : cutD xs (some k) none = xs.drop k.toNat := by
  obtain ⟨n, rfl⟩ := Int.eq_ofNat_of_zero_le h
  unfold cutD
  rw [HT.sIx_none, HT.sIx_nat]
  show (xs.drop (min n xs.length)).take (xs.length - min n xs.length) = xs.drop n
  by_cases q : n ≤ xs.length
  · rw [Nat.min_eq_left q, List.take_of_length_le (by rw [List.length_drop]; exact Nat.le_refl _)]
  · rw [Nat.min_eq_right (by omega), List.drop_length, List.take_nil, List.drop_of_length_le (by omega)]
theorem cut_mid (xs : List D) {i j : Int} (h : 0 ≤ i) (h2 : 0 ≤ j) : cutD xs (some i) (some j) = (xs.drop i.toNat).take (j.toNat - i.toNat) := by
  obtain ⟨n, rfl⟩ := Int.eq_ofNat_of_zero_le h
  obtain ⟨m, rfl⟩ := Int.eq_ofNat_of_zero_le h2
  unfold cutD
  rw [HT.sIx_nat, HT.sIx_nat]
  show (xs.drop (min n xs.length)).take (min m xs.length - min n xs.length) = (xs.drop n).take (m - n)
  by_cases q : n ≤ xs.length
  · rw [Nat.min_eq_left q]
    by_cases q2 : m ≤ xs.length
    · rw [Nat.min_eq_left q2]
    · rw [Nat.min_eq_right (by omega), List.take_of_length_le (by rw [List.length_drop]; omega), List.take_of_length_le (by rw [List.length_drop]; omega)]
  · have e : min n xs.length = xs.length := Nat.min_eq_right (by omega)
    rw [e, List.drop_length, List.take_nil, List.drop_of_length_le (by omega), List.take_nil]
section
variable {X : Cx} {B : Base} {δ : List Ent} {R : D → Prop} {e a b c o : Expr} {es : List Expr} {pos : Pos} {p : Post} {k : Nat}
theorem ev_ix (h : Ev X B a δ fun x => Ev X B b δ fun y => Bix X B x y δ R) (hs : PlainIx b := by intro _ _; rfl) : Ev X B (.Subscript a b pos) δ R := fun S H σ ok Q q =>
  ⟨_, pe_ix ix_u (pe_u a) (pe_u b) hs, h S H σ ok _ fun v x S1 H1 h1 g1 r1 => h1 S1 H1 σ (ok.grow g1) _ fun u y S2 H2 h2 g2 r2 =>
    h2 S2 H2 σ v u ((ok.grow g1).grow g2) (r1.mono g2.ss) r2 _ fun w d S3 H3 h3 g3 r3 => q w d S3 H3 h3 ((g1.trans g2).trans g3) r3⟩
theorem bix_tup {xs : List D} {i : Int} {d : D} (he : atI xs i = some d) (h : R d) : Bix X B (.tup xs) (.int i) δ R := fun S H σ v u ok ⟨a, vs, e1, ⟨o, ho, hd⟩, hl⟩ r2 Q q => by
  subst e1
  cases r2
  obtain ⟨j, hj, hx⟩ : ∃ j, ixN xs.length i = some j ∧ xs[j]? = some d := by
    unfold atI at he
    cases e : ixN xs.length i with
    | none => rw [e] at he; cases he
    | some j => rw [e] at he; exact ⟨j, rfl, he⟩
  obtain ⟨w, hw, r⟩ := hl.get hx
  exact ⟨_, ix_tup, a, vs, i, w, rfl, rfl, TupF.sq ⟨o, ok.sh _ _ ho, hd⟩, by unfold atI; rw [← hl.length, hj]; exact hw, q w d S H h ok.refl r⟩
theorem bix_lst {xs : List D} {i : Int} {d : D} (he : atI xs i = some d) (h : R d) : Bix X B (.lst xs) (.int i) δ R := fun S H σ v u ok ⟨a, vs, e1, ho, hl⟩ r2 Q q => by
  subst e1
  cases r2
  obtain ⟨j, hj, hx⟩ : ∃ j, ixN xs.length i = some j ∧ xs[j]? = some d := by
    unfold atI at he
    cases e : ixN xs.length i with
    | none => rw [e] at he; cases he
    | some j => rw [e] at he; exact ⟨j, rfl, he⟩
  obtain ⟨w, hw, r⟩ := hl.get hx
  exact ⟨_, ix_list, a, vs, i, w, rfl, rfl, SqL.of (ok.sh _ _ ho), by unfold atI; rw [← hl.length, hj]; exact hw, q w d S H h ok.refl r⟩
theorem bix_str {z : Str} {i : Int} {c : Nat} (hz : z.length ≤ sizeLine) (he : atI z.cps.toList i = some c) (h : R (.str ⟨#[c]⟩)) : Bix X B (.str z) (.int i) δ R := fun S H σ v u ok r1 r2 Q q => by
  cases r1
  cases r2
  exact ⟨_, ix_str, z, i, c, rfl, rfl, hz, he, q _ (.str ⟨#[c]⟩) S H h ok.refl rfl⟩
theorem atI_of {α : Type} {xs : List α} {i : Int} {d : α} (h0 : 0 ≤ i) (h : xs[i.toNat]? = some d) : atI xs i = some d := by
  have := atI_nat h
  rwa [Int.toNat_of_nonneg h0] at this
/-- the item of a list of one's own -/
theorem ev_ixOwn (i : Nat) {x : Str} {xs : List D} {d : D} {p1 : Pos} (hd : δ[i]? = some (.own .l xs)) (h : Ev X B b δ fun y => ∃ j : Int, y = .int j ∧ atI xs j = some d ∧ R d) (hs : PlainIx b := by intro _ _; rfl) (hN : X.N[i]? = some x := by rfl)
    (hv : Vis X.env.scope x := by first | exact Or.inl rfl | exact Or.inr (Or.inl rfl) | exact Or.inr (Or.inr rfl)) (h1 : (x == ("__debug__" : Str)) = false := by decide) (h2 : (x == ("__classdict__" : Str)) = false := by decide) : Ev X B (.Subscript (.Name x p1) b pos) δ R := fun S H σ ok Q q => by
  obtain ⟨a, vs, o⟩ := ok.ownAt hd
  refine ⟨_, pe_ix ix_list (pe_var (i := i) hN hv h1 h2) (pe_u b) hs, _, o.sl, h S H σ ok _ fun u y S1 H1 ⟨j, e, he, hR⟩ g1 r1 => ?_⟩
  subst e
  obtain ⟨a2, vs2, o2⟩ := (ok.grow g1).ownAt hd
  have e2 : a2 = a := by have e3 := o2.sl; rw [o.sl] at e3; cases e3; rfl
  subst e2
  obtain ⟨m, hm, hx⟩ : ∃ m, ixN xs.length j = some m ∧ xs[m]? = some d := by
    unfold atI at he
    cases e : ixN xs.length j with
    | none => rw [e] at he; cases he
    | some m => rw [e] at he; exact ⟨m, rfl, he⟩
  obtain ⟨w, hw, r⟩ := o2.has.get hx
  exact ⟨a2, vs2, j, w, rfl, r1, SqL.of o2.h0, by unfold atI; rw [← o2.has.length, hm]; exact hw, q w d S1 H1 hR g1 r⟩
theorem ev_neg (h : Ev X B a δ fun d => ∃ i, d = .int i ∧ R (.int (-i))) : Ev X B (.UnaryOp .USub a pos) δ R := fun S H σ ok Q q =>
  ⟨_, pe_un un_neg (pe_u a), h S H σ ok _ fun v d S1 H1 ⟨i, e, z⟩ g1 r1 => by
    subst e
    exact ⟨i, r1, q _ (.int (-i)) S1 H1 z g1 rfl⟩⟩
/-- d[k], a dict of ints -/
theorem ev_dget (hr : Room k X.A) (hs : NoSl b) (h : Ev X B a δ fun x => Ev X B b δ fun y => ∃ kvs i j, x = .dic kvs ∧ y = .int i ∧ valV (dicV kvs) (Sum.inl i) = some (.int j) ∧ R (.int j)) : Ev X B (.Subscript a b pos) δ R := fun S H σ ok Q q =>
  ⟨_, pe_dget (hu_of hr) (pe_u a) (pe_u b) hs, h S H σ ok _ fun v x S1 H1 h1 g1 r1 => h1 S1 H1 σ (ok.grow g1) _ fun u y S2 H2 ⟨kvs, i, j, e1, e2, ev, z⟩ g2 r2 => by
    subst e1 e2
    obtain ⟨d, rfl, hd⟩ := r1
    have g := DGet.k (H := H2) (a := d) (k := Sum.inl i) (g2.hs _ _ (g2.ss _ _ hd))
    rw [ev] at g
    exact ⟨d, .int j, rfl, by rw [show u = V.int i from r2]; exact g, q _ (.int j) S2 H2 z (g1.trans g2) rfl⟩⟩
/-! slices -/
theorem eo_none {R : Option Int → Prop} (h : R none) : Eo X B none δ R := fun S H σ ok Q q => ⟨_, po_none, q none S H h ok.refl⟩
theorem eo_some {R : Option Int → Prop} (h : Ev X B e δ fun d => ∃ i, d = .int i ∧ R (some i)) : Eo X B (some e) δ R := fun S H σ ok Q q =>
  ⟨_, po_some (pe_u e), h S H σ ok _ fun v d S1 H1 ⟨i, e, z⟩ g1 r1 => by
    subst e
    exact ⟨i, r1, q (some i) S1 H1 z g1⟩⟩
theorem ev_sl {lo hi : Option Expr} {p2 : Pos} (h : Ev X B e δ fun x => Eo X B lo δ fun l => Eo X B hi δ fun u => Bsl X B x l u δ R) : Ev X B (.Subscript e (.Slice lo hi none p2) pos) δ R := fun S H σ ok Q q =>
  ⟨_, pe_slice sl_u (pe_u e) (po_u lo) (po_u hi), h S H σ ok _ fun v x S1 H1 h1 g1 r1 => h1 S1 H1 σ (ok.grow g1) _ fun l S2 H2 h2 g2 => h2 S2 H2 σ ((ok.grow g1).grow g2) _ fun u S3 H3 h3 g3 =>
    h3 S3 H3 σ v (((ok.grow g1).grow g2).grow g3) (r1.mono (g2.ss.trans g3.ss)) _ fun w d S4 H4 h4 g4 r4 => q w d S4 H4 h4 (((g1.trans g2).trans g3).trans g4) r4⟩
theorem bsl_tup {xs : List D} {l u : Option Int} (h : R (.tup (cutD xs l u))) : Bsl X B (.tup xs) l u δ R := fun S H σ v ok ⟨a, vs, e1, ⟨o, ho, hd⟩, hl⟩ Q q => by
  subst e1
  have el := hl.length
  refine ⟨_, sl_tupF, a, vs, rfl, TupF.sq ⟨o, ok.sh _ _ ho, hd⟩, fun w => ?_, fun _ p o2 np od => ?_⟩
  · rw [← el] at w
    rw [cut_whole w] at h
    exact q _ _ S H h ok.refl ⟨a, vs, rfl, ⟨o, ho, hd⟩, hl⟩
  · have gn := ok.gnew (o := .frz o2 (.tup (cutV vs l u))) np
    exact q _ _ _ _ h gn ⟨p, _, rfl, ⟨o2, upd_same, od⟩, (cut_has hl).mono gn.ss⟩
theorem bsl_lst {xs : List D} {l u : Option Int} (h : R (.lst (cutD xs l u))) : Bsl X B (.lst xs) l u δ R := fun S H σ v ok ⟨a, vs, e1, ho, hl⟩ Q q => by
  subst e1
  have el := hl.length
  refine ⟨_, sl_list, a, vs, rfl, SqL.of (ok.sh _ _ ho), fun p np => ?_⟩
  have gn := ok.gnew (o := .lst (cutV vs l u)) np
  exact q _ _ _ _ h gn ⟨p, _, rfl, upd_same, (cut_has hl).mono gn.ss⟩
/-- script[:n] -/
theorem ev_slScr (i : Nat) {x : Str} {ns : List Int} {m : Nat} {j} {p1 p2 p3 : Pos} (hd : δ[i]? = some (.scr ns)) (h : R (.lst ((ns.take m).map D.int))) (hN : X.N[i]? = some x := by rfl)
    (hv : Vis X.env.scope x := by first | exact Or.inl rfl | exact Or.inr (Or.inl rfl) | exact Or.inr (Or.inr rfl)) (h1 : (x == ("__debug__" : Str)) = false := by decide) (h2 : (x == ("__classdict__" : Str)) = false := by decide) :
    Ev X B (.Subscript (.Name x p1) (.Slice none (some (.Constant (.int (m : Nat)) j p2)) none p3) pos) δ R := fun S H σ ok Q q => by
  obtain ⟨v, hv', a, rfl, sq⟩ := ok.ent i _ hd
  refine ⟨_, pe_slice sl_list (pe_var (i := i) hN hv h1 h2) po_none (po_some pe_int), _, hv', m, rfl, a, _, rfl, ok.sh.sqL sq, fun p np => ?_⟩
  have gn := ok.gnew (o := .lst (cutV (ns.map V.int) none (some (m : Int)))) np
  refine q _ _ _ _ h gn ⟨p, _, rfl, upd_same, ?_⟩
  have e : cutV (ns.map V.int) none (some (m : Int)) = (ns.take m).map V.int := by
    unfold cutV
    rw [HT.sIx_none, HT.sIx_nat, List.drop_zero, Nat.sub_zero, List.map_take]
    by_cases q : m ≤ (ns.map V.int).length
    · rw [Nat.min_eq_left q]
    · rw [Nat.min_eq_right (by omega), List.take_length, List.take_of_length_le (by omega)]
  rw [e]
  exact HasL.of_ints _
theorem ev_rev {k : Nat} {p1 p2 p3 : Pos} (h : Ev X B e δ fun d => ∃ xs, d = .lst xs ∧ R (.lst xs.reverse)) : Ev X B (.Subscript e (.Slice none none (some (.UnaryOp .USub (.Constant (.int 1) k p1) p2)) p3) pos) δ R := fun S H σ ok Q q =>
  ⟨_, pe_revL (pe_u e), h S H σ ok _ fun v d S1 H1 ⟨xs, e1, z⟩ g1 r1 => by
    subst e1
    obtain ⟨a, vs, rfl, ha, hl⟩ := r1
    refine ⟨a, vs, rfl, SqL.of (g1.hs _ _ ha), fun p np => ?_⟩
    have gn := (ok.grow g1).gnew (o := .lst vs.reverse) np
    exact q _ _ _ _ z (g1.trans gn) ⟨p, _, rfl, upd_same, (hl.mono gn.ss).reverse⟩⟩
/-! methods of tuples and lists of ints -/
/-- the first place of an int, from a place on -/
def First (ns : List Int) (i : Int) (s j : Nat) : Prop := s ≤ j ∧ ns[j]? = some i ∧ ∀ m, s ≤ m → m < j → ns[m]? ≠ some i
theorem eqV_int {a b : Int} : eqV (.int a) (.int b) = (a == b) := rfl
theorem first_no {ns : List Int} {i : Int} {s j : Nat} (h : First ns i s j) (m : Nat) (z' : V) (hs : s ≤ m) (hm : m < j) (e : (ns.map V.int)[m]? = some z') : eqV z' (.int i) = false := by
  rw [List.getElem?_map] at e
  cases q : ns[m]? with
  | none => rw [q] at e; cases e
  | some n =>
    rw [q] at e
    cases e
    rw [eqV_int, beq_eq_false_iff_ne]
    exact fun z => h.2.2 m hs hm (by rw [q, z])
variable {apos : Pos}
theorem ev_idxL (h : Ev X B o δ fun x => ∃ ns : List Int, x = .lst (ns.map D.int) ∧ Ea X B (e :: es) δ (Dats fun ds => ∃ i j, ds = [.int i] ∧ First ns i 0 j ∧ R (.int (j : Nat)))) (hbase : attributeBase o "index" X.env (eval o X.env) = eval o X.env := by rfl)
    (hfew : ((backTo pos (starEach (e :: es) X.env)).all (fun x => !x.1) && (backToKw pos (keywordEach [] X.env)).all (fun x => x.1.isSome) && decide ((e :: es).length + ([] : List Keyword).length + (if ([] : List Keyword).isEmpty then 0 else 1) < 30)) = true := by rfl)
    (hline : (apos.endLine == pos.line) = true := by rfl) (hs : starEach (e :: es) X.env = (false, eval e X.env) :: starEach es X.env := by rfl) (hplain : (backTo pos (starEach es X.env)).any (·.1) = false := by rfl) :
    Ev X B (.Call (.Attribute o "index" apos) (e :: es) [] pos) δ R := fun S H σ ok Q q =>
  ⟨_, pe_bm PySem.F.plainAttrs_list PySem.F.slot_list_index PySem.F.type_list_index mt_index (pe_u o) (pa_u _) hbase hfew hline hs hplain, h S H σ ok _ fun v x S1 H1 ⟨ns, e1, h1⟩ g1 r1 => by
    subst e1
    obtain ⟨a, vs, rfl, ha, hl⟩ := r1
    obtain rfl := hl.ints
    refine ⟨.inl ⟨rfl, _, SqL.of (g1.hs _ _ ha)⟩, h1 S1 H1 σ (ok.grow g1) _ fun us as S2 H2 ⟨ds, e2, i, j, e3, hf, z⟩ g2 r2 => ?_⟩
    subst e2 e3
    obtain ⟨u, r, rfl, hu, hr⟩ := r2.dats
    obtain rfl : r = [] := hr
    exact ⟨a, _, .int i, j, .int i, rfl, by rw [show u = V.int i from hu], SqL.of (g2.hs _ _ (g2.ss _ _ ha)), rfl, flat_ints ns, by rw [List.getElem?_map, hf.2.1]; rfl, by rw [eqV_int, beq_self_eq_true], fun m z' hm e => first_no hf m z' (Nat.zero_le _) hm e, q _ (.int (j : Nat)) S2 H2 z (g1.trans g2) rfl⟩⟩
theorem ev_idxT (h : Ev X B o δ fun x => ∃ ns : List Int, x = .tup (ns.map D.int) ∧ Ea X B (e :: es) δ (Dats fun ds => ∃ i j, ds = [.int i] ∧ First ns i 0 j ∧ R (.int (j : Nat)))) (hbase : attributeBase o "index" X.env (eval o X.env) = eval o X.env := by rfl)
    (hfew : ((backTo pos (starEach (e :: es) X.env)).all (fun x => !x.1) && (backToKw pos (keywordEach [] X.env)).all (fun x => x.1.isSome) && decide ((e :: es).length + ([] : List Keyword).length + (if ([] : List Keyword).isEmpty then 0 else 1) < 30)) = true := by rfl)
    (hline : (apos.endLine == pos.line) = true := by rfl) (hs : starEach (e :: es) X.env = (false, eval e X.env) :: starEach es X.env := by rfl) (hplain : (backTo pos (starEach es X.env)).any (·.1) = false := by rfl) :
    Ev X B (.Call (.Attribute o "index" apos) (e :: es) [] pos) δ R := fun S H σ ok Q q =>
  ⟨_, pe_bmT PySem.F.plainAttrs_tuple PySem.F.slot_tuple_index PySem.F.type_tuple_index mt_tidx (pe_u o) (pa_u _) hbase hfew hline hs hplain, h S H σ ok _ fun v x S1 H1 ⟨ns, e1, h1⟩ g1 r1 => by
    subst e1
    obtain ⟨a, vs, rfl, ⟨o1, ha, hd⟩, hl⟩ := r1
    obtain rfl := hl.ints
    refine ⟨⟨a, _, rfl, o1, g1.hs _ _ ha, hd⟩, h1 S1 H1 σ (ok.grow g1) _ fun us as S2 H2 ⟨ds, e2, i, j, e3, hf, z⟩ g2 r2 => ?_⟩
    subst e2 e3
    obtain ⟨u, r, rfl, hu, hr⟩ := r2.dats
    obtain rfl : r = [] := hr
    exact ⟨a, _, .int i, j, .int i, rfl, by rw [show u = V.int i from hu], TupF.sq ⟨o1, g2.hs _ _ (g2.ss _ _ ha), hd⟩, rfl, flat_ints ns, by rw [List.getElem?_map, hf.2.1]; rfl, by rw [eqV_int, beq_self_eq_true], fun m z' hm e => first_no hf m z' (Nat.zero_le _) hm e, q _ (.int (j : Nat)) S2 H2 z (g1.trans g2) rfl⟩⟩
theorem ev_idxT2 (h : Ev X B o δ fun x => ∃ ns : List Int, x = .tup (ns.map D.int) ∧ Ea X B (e :: es) δ (Dats fun ds => ∃ i s j, ds = [.int i, .int s] ∧ 0 ≤ s ∧ First ns i s.toNat j ∧ R (.int (j : Nat)))) (hbase : attributeBase o "index" X.env (eval o X.env) = eval o X.env := by rfl)
    (hfew : ((backTo pos (starEach (e :: es) X.env)).all (fun x => !x.1) && (backToKw pos (keywordEach [] X.env)).all (fun x => x.1.isSome) && decide ((e :: es).length + ([] : List Keyword).length + (if ([] : List Keyword).isEmpty then 0 else 1) < 30)) = true := by rfl)
    (hline : (apos.endLine == pos.line) = true := by rfl) (hs : starEach (e :: es) X.env = (false, eval e X.env) :: starEach es X.env := by rfl) (hplain : (backTo pos (starEach es X.env)).any (·.1) = false := by rfl) :
    Ev X B (.Call (.Attribute o "index" apos) (e :: es) [] pos) δ R := fun S H σ ok Q q =>
  ⟨_, pe_bmT PySem.F.plainAttrs_tuple PySem.F.slot_tuple_index PySem.F.type_tuple_index mt_tidx2 (pe_u o) (pa_u _) hbase hfew hline hs hplain, h S H σ ok _ fun v x S1 H1 ⟨ns, e1, h1⟩ g1 r1 => by
    subst e1
    obtain ⟨a, vs, rfl, ⟨o1, ha, hd⟩, hl⟩ := r1
    obtain rfl := hl.ints
    refine ⟨⟨a, _, rfl, o1, g1.hs _ _ ha, hd⟩, h1 S1 H1 σ (ok.grow g1) _ fun us as S2 H2 ⟨ds, e2, i, s, j, e3, s0, hf, z⟩ g2 r2 => ?_⟩
    subst e2 e3
    obtain ⟨u, r, rfl, hu, u2, r3, rfl, hu2, hr⟩ := r2.dats
    obtain rfl : r3 = [] := hr
    exact ⟨a, _, .int i, s, j, .int i, rfl, by rw [show u = V.int i from hu, show u2 = V.int s from hu2], TupF.sq ⟨o1, g2.hs _ _ (g2.ss _ _ ha), hd⟩, rfl, flat_ints ns, s0, hf.1, by rw [List.getElem?_map, hf.2.1]; rfl, by rw [eqV_int, beq_self_eq_true], fun m z' hs hm e => first_no hf m z' hs hm e, q _ (.int (j : Nat)) S2 H2 z (g1.trans g2) rfl⟩⟩
theorem count_ints (i : Int) : ∀ ns : List Int, (ns.map V.int).countP (fun z => eqV z (.int i)) = ns.count i
  | [] => rfl
  | n :: ns => by
    rw [List.map_cons, List.countP_cons, count_ints i ns, List.count_cons]
    rfl
theorem ev_cntT (h : Ev X B o δ fun x => ∃ ns : List Int, x = .tup (ns.map D.int) ∧ Ea X B (e :: es) δ (Dats fun ds => ∃ i, ds = [.int i] ∧ R (.int (ns.count i : Nat)))) (hbase : attributeBase o "count" X.env (eval o X.env) = eval o X.env := by rfl)
    (hfew : ((backTo pos (starEach (e :: es) X.env)).all (fun x => !x.1) && (backToKw pos (keywordEach [] X.env)).all (fun x => x.1.isSome) && decide ((e :: es).length + ([] : List Keyword).length + (if ([] : List Keyword).isEmpty then 0 else 1) < 30)) = true := by rfl)
    (hline : (apos.endLine == pos.line) = true := by rfl) (hs : starEach (e :: es) X.env = (false, eval e X.env) :: starEach es X.env := by rfl) (hplain : (backTo pos (starEach es X.env)).any (·.1) = false := by rfl) :
    Ev X B (.Call (.Attribute o "count" apos) (e :: es) [] pos) δ R := fun S H σ ok Q q =>
  ⟨_, pe_bmT PySem.F.plainAttrs_tuple PySem.F.slot_tuple_count PySem.F.type_tuple_count mt_tcount (pe_u o) (pa_u _) hbase hfew hline hs hplain, h S H σ ok _ fun v x S1 H1 ⟨ns, e1, h1⟩ g1 r1 => by
    subst e1
    obtain ⟨a, vs, rfl, ⟨o1, ha, hd⟩, hl⟩ := r1
    obtain rfl := hl.ints
    refine ⟨⟨a, _, rfl, o1, g1.hs _ _ ha, hd⟩, h1 S1 H1 σ (ok.grow g1) _ fun us as S2 H2 ⟨ds, e2, i, e3, z⟩ g2 r2 => ?_⟩
    subst e2 e3
    obtain ⟨u, r, rfl, hu, hr⟩ := r2.dats
    obtain rfl : r = [] := hr
    exact ⟨a, _, .int i, rfl, by rw [show u = V.int i from hu], TupF.sq ⟨o1, g2.hs _ _ (g2.ss _ _ ha), hd⟩, rfl, flat_ints ns, q _ (.int (ns.count i : Nat)) S2 H2 z (g1.trans g2) (show V.int _ = V.int _ by rw [count_ints])⟩⟩
/-! lists of one's own, further -/
theorem ex_extend (i : Nat) {x : Str} {xs : List D} {p1 p2 p3 : Pos} (hd : δ[i]? = some (.own .l xs)) (h : Ev X B e δ fun d => ∃ ys, d = .lst ys ∧ xs.length + ys.length ≤ sizeLine ∧ p.n (δ.set i (.own .l (xs ++ ys))))
    (hN : X.N[i]? = some x := by rfl) (hv : Vis X.env.scope x := by first | exact Or.inl rfl | exact Or.inr (Or.inl rfl) | exact Or.inr (Or.inr rfl)) (h1 : (x == ("__debug__" : Str)) = false := by decide) (h2 : (x == ("__classdict__" : Str)) = false := by decide)
    (hb : attributeBase (.Name x p1) "extend" X.env (eval (.Name x p1) X.env) = eval (.Name x p1) X.env := by rfl)
    (hfew : ((backTo p3 (starEach [e] X.env)).all (fun x => !x.1) && (backToKw p3 (keywordEach [] X.env)).all (fun x => x.1.isSome) && decide (([e] : List Expr).length + ([] : List Keyword).length + (if ([] : List Keyword).isEmpty then 0 else 1) < 30)) = true := by rfl)
    (hline : (p2.endLine == p3.line) = true := by rfl) (hs : starEach [e] X.env = (false, eval e X.env) :: starEach [] X.env := by rfl) (hplain : (backTo p3 (starEach [] X.env)).any (·.1) = false := by rfl)
    (hsw : swapsWith (.Call (.Attribute (.Name x p1) "extend" p2) [e] [] p3) none pos.line X.env = pure false := by rfl) :
    Ex X B (.Expr (.Call (.Attribute (.Name x p1) "extend" p2) [e] [] p3) pos) δ p := fun S H σ ok E m => by
  obtain ⟨a, vs, o⟩ := ok.ownAt hd
  refine ⟨_, ps_expr (pe_bm PySem.F.plainAttrs_list PySem.F.slot_list_extend PySem.F.type_list_extend mt_extend (pe_var (i := i) hN hv h1 h2) (pa_cons (pe_u e) pa_nil hs) hb hfew hline hs hplain) hsw, _, o.sl, .inl ⟨rfl, _, SqL.of o.h0⟩, ?_⟩
  refine h S H σ ok _ fun v d S1 H1 ⟨ys, e1, hz, hp⟩ g1 r1 => ?_
  subst e1
  have ok1 := ok.grow g1
  obtain ⟨a2, vs2, o2⟩ := ok1.ownAt hd
  have e2 : a2 = a := by have e3 := o2.sl; rw [o.sl] at e3; cases e3; rfl
  subst e2
  obtain ⟨b, us, rfl, hb2, hl⟩ := r1
  refine ⟨a2, b, vs2, us, rfl, rfl, o2.h0, g1.hs _ _ hb2, by rw [← o2.has.length, ← hl.length]; exact hz, ?_⟩
  have ok2 := ok1.putOwn (i := i) (kd := .l) (xs := xs ++ ys) (vs := vs2 ++ us) o2.s0 o2.nw o2.n0 o2.sep (o2.has.append hl) True.intro
  rw [set_same o2.sl] at ok2
  exact m.n _ _ _ _ g1.ss ok2 hp
theorem ex_insert (i : Nat) {x : Str} {xs : List D} {p1 p2 p3 : Pos} (hd : δ[i]? = some (.own .l xs)) (hz : xs.length < sizeLine) (h : Ea X B (e :: es) δ (Dats fun ds => ∃ (k : Int) (d : D), ds = [.int k, d] ∧ 0 ≤ k ∧ k < 2 ^ 63 ∧ p.n (δ.set i (.own .l (xs.take k.toNat ++ [d] ++ xs.drop k.toNat)))))
    (hN : X.N[i]? = some x := by rfl) (hv : Vis X.env.scope x := by first | exact Or.inl rfl | exact Or.inr (Or.inl rfl) | exact Or.inr (Or.inr rfl)) (h1 : (x == ("__debug__" : Str)) = false := by decide) (h2 : (x == ("__classdict__" : Str)) = false := by decide)
    (hb : attributeBase (.Name x p1) "insert" X.env (eval (.Name x p1) X.env) = eval (.Name x p1) X.env := by rfl)
    (hfew : ((backTo p3 (starEach (e :: es) X.env)).all (fun x => !x.1) && (backToKw p3 (keywordEach [] X.env)).all (fun x => x.1.isSome) && decide ((e :: es).length + ([] : List Keyword).length + (if ([] : List Keyword).isEmpty then 0 else 1) < 30)) = true := by rfl)
    (hline : (p2.endLine == p3.line) = true := by rfl) (hs : starEach (e :: es) X.env = (false, eval e X.env) :: starEach es X.env := by rfl) (hplain : (backTo p3 (starEach es X.env)).any (·.1) = false := by rfl)
    (hsw : swapsWith (.Call (.Attribute (.Name x p1) "insert" p2) (e :: es) [] p3) none pos.line X.env = pure false := by rfl) :
    Ex X B (.Expr (.Call (.Attribute (.Name x p1) "insert" p2) (e :: es) [] p3) pos) δ p := fun S H σ ok E m => by
  obtain ⟨a, vs, o⟩ := ok.ownAt hd
  refine ⟨_, ps_expr (pe_bm PySem.F.plainAttrs_list PySem.F.slot_list_insert PySem.F.type_list_insert mt_insert (pe_var (i := i) hN hv h1 h2) (pa_u _) hb hfew hline hs hplain) hsw, _, o.sl, .inl ⟨rfl, _, SqL.of o.h0⟩, ?_⟩
  refine h S H σ ok _ fun us as S1 H1 ⟨ds, e1, k, d, e2, k0, k1, hp⟩ g1 r1 => ?_
  subst e1 e2
  have ok1 := ok.grow g1
  obtain ⟨a2, vs2, o2⟩ := ok1.ownAt hd
  have e2 : a2 = a := by have e3 := o2.sl; rw [o.sl] at e3; cases e3; rfl
  subst e2
  obtain ⟨u, r, rfl, hu, w, r2, rfl, hw, hr⟩ := r1.dats
  obtain rfl : r2 = [] := hr
  refine ⟨a2, vs2, k, w, rfl, by rw [show u = V.int k from hu], o2.h0, by rw [← o2.has.length]; exact hz, k0, k1, ?_⟩
  have ok2 := ok1.putOwn (i := i) (kd := .l) (xs := xs.take k.toNat ++ [d] ++ xs.drop k.toNat) (vs := vs2.take k.toNat ++ [w] ++ vs2.drop k.toNat) o2.s0 o2.nw o2.n0 o2.sep (((o2.has.take _).append (HasL.one hw)).append (o2.has.drop _)) True.intro
  rw [set_same o2.sl] at ok2
  exact m.n _ _ _ _ g1.ss ok2 hp
/-! what is walked -/
theorem drawn_of {K : PySem.W.Frag} {J : It} {ds : List D} {S : Hp} (go : ∀ (i : Nat) (d : D) (H' : Hp), Ext S H' → ds[i]? = some d → J.go i H') (yld : ∀ (i : Nat) (d : D) (S' H' H'' : Hp) (x : V), Ext S S' → Ext S' H' → ds[i]? = some d → J.yld i H' x H'' → H'' = H' ∧ Has S' d x) (stop : ∀ (H' : Hp), Ext S H' → J.stop ds.length H') : Drawn K J ds S :=
  ⟨fun i d S' H' e1 e2 => go i d H' (e1.trans e2), fun i d S' H' H'' x W e1 e2 w e y => by
    obtain ⟨rfl, r⟩ := yld i d S' H' H'' x e1 e2 e y
    exact ⟨S', Grow.refl e2, r⟩, fun S' H' e1 e2 => stop H' (e1.trans e2)⟩
variable {tg : Expr} {RL : List D → Prop}
theorem ei_list (h : Ev X B e δ fun d => ∃ ds, d = .lst ds ∧ RL ds) : Ei X B tg e δ RL := fun S H σ ok Q q =>
  ⟨_, pi_list (pe_u e), h S H σ ok _ fun v d S1 H1 ⟨ds, e1, z⟩ g1 r1 => by
    subst e1
    obtain ⟨a, vs, rfl, ha, hl⟩ := r1
    refine ⟨a, rfl, ⟨vs, SqL.of (g1.hs _ _ ha)⟩, q ds _ S1 H1 z g1 (drawn_of (fun i d H' e1 e => ?_) (fun i d S' H' H'' x e1 e2 e y => ?_) fun H' e1 => ?_)⟩
    · obtain ⟨w, hw, _⟩ := hl.get e
      exact ⟨vs, w, SqL.of (e1 _ _ ha), hw⟩
    · obtain ⟨rfl, hy⟩ := y
      obtain ⟨w, hw, r⟩ := hl.get e
      have := hy vs (SqL.of (e2 _ _ (e1 _ _ ha)))
      rw [hw] at this
      cases this
      exact ⟨rfl, r.mono e1⟩
    · exact ⟨vs, SqL.of (e1 _ _ ha), by rw [hl.length]; exact Nat.le_refl _⟩⟩
theorem ei_tup (h : Ev X B e δ fun d => ∃ ds, d = .tup ds ∧ RL ds) : Ei X B tg e δ RL := fun S H σ ok Q q =>
  ⟨_, pi_tup (pe_u e), h S H σ ok _ fun v d S1 H1 ⟨ds, e1, z⟩ g1 r1 => by
    subst e1
    obtain ⟨a, vs, rfl, ⟨o1, ha, hd⟩, hl⟩ := r1
    have sq : ∀ {H'}, Ext S1 H' → SqT X.K H' a vs := fun e1 => TupF.sq ⟨o1, e1 _ _ ha, hd⟩
    refine ⟨a, rfl, ⟨vs, sq g1.hs⟩, q ds _ S1 H1 z g1 (drawn_of (fun i d H' e1 e => ?_) (fun i d S' H' H'' x e1 e2 e y => ?_) fun H' e1 => ?_)⟩
    · obtain ⟨w, hw, _⟩ := hl.get e
      exact ⟨vs, w, sq e1, hw⟩
    · obtain ⟨rfl, hy⟩ := y
      obtain ⟨w, hw, r⟩ := hl.get e
      have := hy vs (sq (e1.trans e2))
      rw [hw] at this
      cases this
      exact ⟨rfl, r.mono e1⟩
    · exact ⟨vs, sq e1, by rw [hl.length]; exact Nat.le_refl _⟩⟩
theorem rg_drawn {K : PySem.W.Frag} {S : Hp} {a b : Int} : Drawn K (Itr a (b - a).toNat) (rgD a b) S := by
  have hl : (rgD a b).length = (b - a).toNat := by rw [List.length_map, List.length_range]
  refine drawn_of (fun i d H' _ e => ?_) (fun i d S' H' H'' x _ _ e y => ?_) fun H' _ => ?_
  · have := (List.getElem?_eq_some_iff.mp e).1
    rw [hl] at this
    exact this
  · obtain ⟨rfl, rfl⟩ := y
    rw [List.getElem?_map] at e
    cases q : (List.range (b - a).toNat)[i]? with
    | none => rw [q] at e; cases e
    | some m =>
      rw [q] at e
      cases e
      obtain ⟨h1, h2⟩ := List.getElem?_eq_some_iff.mp q
      rw [List.getElem_range] at h2
      subst h2
      exact ⟨rfl, rfl⟩
  · rw [hl]; exact Nat.le_refl _
theorem ei_rg1 {p1 : Pos} (hm : X.mg "range" = none) (h : Ev X B a δ fun d => ∃ n : Int, d = .int n ∧ -(2 ^ 62) ≤ n ∧ n < 2 ^ 62 ∧ RL (rgD 0 n)) (hg : Gl X "range" := by rfl) (hs : starEach [a] X.env = [(false, eval a X.env)] := by rfl) (hs2 : starEach [a] X.env = (false, eval a X.env) :: starEach [] X.env := by rfl) : Ei X B tg (.Call (.Name "range" p1) [a] [] pos) δ RL := fun S H σ ok Q q =>
  ⟨_, pi_range1 hg hm (pa_cons (pe_u a) pa_nil hs2) hs, h S H σ ok _ fun v d S1 H1 ⟨n, e1, n0, n1, z⟩ g1 r1 => by
    subst e1
    obtain rfl : v = .int n := r1
    refine ⟨n, rfl, n0, n1, ?_⟩
    have e : n.toNat = (n - 0).toNat := by rw [Int.sub_zero]
    rw [e]
    exact q _ _ S1 H1 z g1 rg_drawn⟩
end
end BA

set_option maxHeartbeats 4000000
namespace BA
open PySem L2 PyProof.Rows
section
variable {X : Cx} {B : Base} {δ : List Ent} {R : D → Prop} {e e2 : Expr} {es : List Expr} {pos tpos p1 : Pos} {p : Post} {k kk : Nat} {elts : List Expr} {RL : List D → Prop}
/-- what enumerate yields -/
def enumD (ds : List D) : List D := ds.zipIdx.map fun q => .tpw [.int (q.2 : Nat), q.1]
theorem enumD_at {ds : List D} {i : Nat} {d : D} (h : (enumD ds)[i]? = some d) : ∃ x, ds[i]? = some x ∧ d = .tpw [.int (i : Nat), x] := by
  unfold enumD at h
  rw [List.getElem?_map, List.getElem?_zipIdx] at h
  cases q : ds[i]? with
  | none => rw [q] at h; cases h
  | some x =>
    rw [q] at h
    simp at h
    exact ⟨x, rfl, h.symm⟩
theorem enumD_length (ds : List D) : (enumD ds).length = ds.length := by unfold enumD; rw [List.length_map, List.length_zipIdx]
theorem Grow.newT {W : Addr → Prop} {S H : Hp} {T : Addr} {vs : List V} {ds : List D} (h : Ext S H) (n : H T = none) (w : ∀ a, W a → H a ≠ none) (hl : HasL S ds vs) : ∃ S'', Grow W S H S'' (upd H T (.tup vs)) ∧ Has S'' (.tpw ds) (.ref T) := by
  have g := Grow.new (W := W) (o := .tup vs) h n w
  exact ⟨_, g, T, vs, rfl, upd_same, hl.mono g.ss⟩
theorem ei_enumT (hm : X.mg "enumerate" = none) (h : Ev X B e δ fun d => ∃ ds, d = .tup ds ∧ RL (enumD ds)) (hg : Gl X "enumerate" := by rfl) (hs : starEach [e] X.env = [(false, eval e X.env)] := by rfl) (hs2 : starEach [e] X.env = (false, eval e X.env) :: starEach [] X.env := by rfl) :
    Ei X B (.Tuple elts kk tpos) (.Call (.Name "enumerate" p1) [e] [] pos) δ RL := fun S H σ ok Q q =>
  ⟨_, pi_enumT hg hm (pa_cons (pe_u e) pa_nil hs2) hs, h S H σ ok _ fun v d S1 H1 ⟨ds, e1, z⟩ g1 r1 => by
    subst e1
    obtain ⟨a, vs, rfl, ⟨o1, ha, hd⟩, hl⟩ := r1
    have sq : ∀ {H'}, Ext S1 H' → SqT X.K H' a vs := fun e1 => TupF.sq ⟨o1, e1 _ _ ha, hd⟩
    refine ⟨a, vs, rfl, sq g1.hs, q _ _ S1 H1 z g1 ⟨fun i d S' H' e1 e2 e => ?_, fun i d S' H' H'' x W e1 e2 w e y => ?_, fun S' H' e1 e2 => ?_⟩⟩
    · obtain ⟨x, hx, _⟩ := enumD_at e
      obtain ⟨u, hu, _⟩ := hl.get hx
      exact ⟨vs, u, sq (e1.trans e2), hu⟩
    · obtain ⟨x', hx, rfl⟩ := enumD_at e
      obtain ⟨u, hu, ru⟩ := hl.get hx
      obtain ⟨T, x2, rfl, nT, rfl, hy⟩ := y
      have := hy vs (sq (e1.trans e2))
      rw [hu] at this
      cases this
      exact Grow.newT e2 nT w ⟨_, _, rfl, rfl, _, _, rfl, ru.mono e1, rfl⟩
    · exact ⟨vs, sq (e1.trans e2), by rw [enumD_length, hl.length]⟩⟩
theorem ei_enumL (hm : X.mg "enumerate" = none) (h : Ev X B e δ fun d => ∃ ds, d = .lst ds ∧ RL (enumD ds)) (hg : Gl X "enumerate" := by rfl) (hs : starEach [e] X.env = [(false, eval e X.env)] := by rfl) (hs2 : starEach [e] X.env = (false, eval e X.env) :: starEach [] X.env := by rfl) :
    Ei X B (.Tuple elts kk tpos) (.Call (.Name "enumerate" p1) [e] [] pos) δ RL := fun S H σ ok Q q =>
  ⟨_, pi_enum hg hm (pa_cons (pe_u e) pa_nil hs2) hs, h S H σ ok _ fun v d S1 H1 ⟨ds, e1, z⟩ g1 r1 => by
    subst e1
    obtain ⟨a, vs, rfl, ha, hl⟩ := r1
    have sq : ∀ {H'}, Ext S1 H' → SqL X.K H' a vs := fun e1 => SqL.of (e1 _ _ ha)
    refine ⟨a, vs, rfl, sq g1.hs, q _ _ S1 H1 z g1 ⟨fun i d S' H' e1 e2 e => ?_, fun i d S' H' H'' x W e1 e2 w e y => ?_, fun S' H' e1 e2 => ?_⟩⟩
    · obtain ⟨x, hx, _⟩ := enumD_at e
      obtain ⟨u, hu, _⟩ := hl.get hx
      exact ⟨vs, u, sq (e1.trans e2), hu⟩
    · obtain ⟨x', hx, rfl⟩ := enumD_at e
      obtain ⟨u, hu, ru⟩ := hl.get hx
      obtain ⟨T, x2, rfl, nT, rfl, hy⟩ := y
      have := hy vs (sq (e1.trans e2))
      rw [hu] at this
      cases this
      exact Grow.newT e2 nT w ⟨_, _, rfl, rfl, _, _, rfl, ru.mono e1, rfl⟩
    · exact ⟨vs, sq (e1.trans e2), by rw [enumD_length, hl.length]; exact Nat.le_refl _⟩⟩
/-- what zip yields -/
def zipD (xs ys : List D) : List D := (xs.zip ys).map fun q => .tpw [q.1, q.2]
theorem zipD_at {xs ys : List D} {i : Nat} {d : D} (h : (zipD xs ys)[i]? = some d) : ∃ x y, xs[i]? = some x ∧ ys[i]? = some y ∧ d = .tpw [x, y] := by
  unfold zipD at h
  rw [List.getElem?_map] at h
  cases q : (xs.zip ys)[i]? with
  | none => rw [q] at h; cases h
  | some z =>
    rw [q] at h
    obtain ⟨h1, h2⟩ := List.getElem?_zip_eq_some.mp q
    exact ⟨z.1, z.2, h1, h2, (Option.some.inj h).symm⟩
theorem ei_zipL (hm : X.mg "zip" = none) (h : Ev X B e δ fun d => Ev X B e2 δ fun f => ∃ xs ys, d = .lst xs ∧ f = .lst ys ∧ RL (zipD xs ys)) (hg : Gl X "zip" := by rfl) (hs : starEach [e, e2] X.env = (false, eval e X.env) :: starEach [e2] X.env := by rfl)
    (hs2 : starEach [e2] X.env = (false, eval e2 X.env) :: starEach [] X.env := by rfl) (hpl : (backTo pos (starEach [e2] X.env)).any (·.1) = false := by rfl) :
    Ei X B (.Tuple elts kk tpos) (.Call (.Name "zip" p1) [e, e2] [] pos) δ RL := fun S H σ ok Q q =>
  ⟨_, pi_zip hg hm (pa_cons (pe_u e) (pa_cons (pe_u e2) pa_nil hs2) hs) hs hpl, h S H σ ok _ fun v d S1 H1 h1 g1 r1 => h1 S1 H1 σ (ok.grow g1) _ fun u f S2 H2 ⟨xs, ys, e1, e2, z⟩ g2 r2 => by
    subst e1 e2
    obtain ⟨a, vs, rfl, ha, hl⟩ := r1.mono g2.ss
    obtain ⟨b, us, rfl, hb, hl2⟩ := r2
    have sq : ∀ {H'}, Ext S2 H' → SqL X.K H' a vs := fun e1 => SqL.of (e1 _ _ ha)
    have sq2 : ∀ {H'}, Ext S2 H' → SqL X.K H' b us := fun e1 => SqL.of (e1 _ _ hb)
    refine ⟨a, b, vs, us, rfl, sq g2.hs, sq2 g2.hs, q _ _ S2 H2 z (g1.trans g2) ⟨fun i d S' H' e1 e2 e => ?_, fun i d S' H' H'' x W e1 e2 w e y => ?_, fun S' H' e1 e2 => ?_⟩⟩
    · obtain ⟨x, y, hx, hy, _⟩ := zipD_at e
      obtain ⟨u, hu, _⟩ := hl.get hx
      obtain ⟨w, hw, _⟩ := hl2.get hy
      exact ⟨vs, us, u, w, sq (e1.trans e2), sq2 (e1.trans e2), hu, hw⟩
    · obtain ⟨x', y', hx, hy, rfl⟩ := zipD_at e
      obtain ⟨u, hu, ru⟩ := hl.get hx
      obtain ⟨u2, hu2, ru2⟩ := hl2.get hy
      obtain ⟨T, x2, x3, rfl, nT, rfl, h1, h2⟩ := y
      have z1 := h1 vs (sq (e1.trans e2))
      have z2 := h2 us (sq2 (e1.trans e2))
      rw [hu] at z1
      rw [hu2] at z2
      cases z1
      cases z2
      exact Grow.newT e2 nT w ⟨_, _, rfl, ru.mono e1, _, _, rfl, ru2.mono e1, rfl⟩
    · refine ⟨vs, us, sq (e1.trans e2), sq2 (e1.trans e2), ?_⟩
      unfold zipD
      rw [List.length_map, List.length_zip, hl.length, hl2.length]
      omega⟩
theorem ei_revL {tg : Expr} (hm : X.mg "reversed" = none) (h : Ev X B e δ fun d => ∃ ds, d = .lst ds ∧ RL ds.reverse) (hg : Gl X "reversed" := by rfl) (hs : starEach [e] X.env = [(false, eval e X.env)] := by rfl) (hs2 : starEach [e] X.env = (false, eval e X.env) :: starEach [] X.env := by rfl) :
    Ei X B tg (.Call (.Name "reversed" p1) [e] [] pos) δ RL := fun S H σ ok Q q =>
  ⟨_, pi_reversed hg hm (pa_cons (pe_u e) pa_nil hs2) hs, h S H σ ok _ fun v d S1 H1 ⟨ds, e1, z⟩ g1 r1 => by
    subst e1
    obtain ⟨a, vs, rfl, ha, hl⟩ := r1
    have el := hl.length
    have sq : ∀ {H'}, Ext S1 H' → SqL X.K H' a vs := fun e1 => SqL.of (e1 _ _ ha)
    have rv : ∀ {i : Nat} {d : D}, ds.reverse[i]? = some d → i < vs.length ∧ ds[vs.length - 1 - i]? = some d := fun {i d} e => by
      have hi : i < ds.length := by have := (List.getElem?_eq_some_iff.mp e).1; rwa [List.length_reverse] at this
      rw [List.getElem?_reverse hi] at e
      exact ⟨by rw [← el]; exact hi, by rw [← el]; exact e⟩
    refine ⟨a, vs, rfl, sq g1.hs, q _ _ S1 H1 z g1 (drawn_of (fun i d H' e1 e => ?_) (fun i d S' H' H'' x e1 e2 e y => ?_) fun H' e1 => ?_)⟩
    · obtain ⟨hi, hd⟩ := rv e
      obtain ⟨u, hu, _⟩ := hl.get hd
      exact ⟨hi, vs, u, sq e1, hu⟩
    · obtain ⟨hi, hd⟩ := rv e
      obtain ⟨u, hu, ru⟩ := hl.get hd
      obtain ⟨rfl, hy⟩ := y
      have := hy vs (sq (e1.trans e2))
      rw [hu] at this
      cases this
      exact ⟨rfl, ru.mono e1⟩
    · rw [List.length_reverse, el]
      exact Nat.le_refl _⟩
/-- len(set(texts)) -/
theorem ev_lenSet {p2 p3 : Pos} (hc : X.calm = true) (hm : X.mg "len" = none) (hm2 : X.mg "set" = none) (h : Ev X B e δ fun d => ∃ xs : List Str, d = .lst (xs.map D.str) ∧ xs.Nodup ∧ xs.length ≤ 1000 ∧ R (.int (xs.length : Nat))) (hg : Gl X "len" := by rfl) (hg2 : Gl X "set" := by rfl)
    (na : starEach [e] X.env = (false, eval e X.env) :: starEach [] X.env := by rfl) : Ev X B (.Call (.Name "len" p1) [.Call (.Name "set" p2) [e] [] p3] [] pos) δ R := fun S H σ ok Q q =>
  ⟨_, pe_lenTexts hc hg hm hg2 hm2 (pe_u e) na, h S H σ ok _ fun v d S1 H1 ⟨xs, e1, nd, hz, z⟩ g1 r1 => by
    subst e1
    obtain ⟨a, vs, rfl, ha, hl⟩ := r1
    obtain rfl := hl.strs
    exact ⟨a, xs, rfl, SqL.of (g1.hs _ _ ha), nd, hz, q _ (.int (xs.length : Nat)) S1 H1 z g1 rfl⟩⟩
/-- dict(pairs of ints), the keys all different -/
theorem putK_new {kvs : List (Key × V)} {k : Key} {v : V} (h : k ∉ kvs.map (·.1)) : putK kvs k v = kvs ++ [(k, v)] := by
  unfold putK
  rw [if_neg]
  intro z
  obtain ⟨q, hq, e⟩ := List.any_eq_true.mp z
  exact h (List.mem_map.mpr ⟨q, hq, of_decide_eq_true e⟩)
theorem mergeK_new : ∀ {more kvs : List (Key × V)}, ((kvs ++ more).map (·.1)).Nodup → mergeK kvs more = kvs ++ more
  | [], kvs, _ => by rw [List.append_nil]; rfl
  | q :: more, kvs, h => by
    have h2 : q.1 ∉ kvs.map (·.1) := by
      rw [List.map_append, List.map_cons, List.nodup_append] at h
      exact fun z => h.2.2 _ z _ (List.mem_cons_self ..) rfl
    have e : kvs ++ q :: more = (kvs ++ [q]) ++ more := by rw [List.append_assoc]; rfl
    have ih := mergeK_new (more := more) (kvs := kvs ++ [q]) (by rw [← e]; exact h)
    show mergeK (putK kvs q.1 q.2) more = _
    rw [putK_new h2, ih, e]
theorem dicV_keys (kvs : List (Int × Int)) : (dicV kvs).map (·.1) = (kvs.map (·.1)).map Sum.inl := by
  unfold dicV
  rw [List.map_map, List.map_map]
  rfl
theorem pairs_has {K : PySem.W.Frag} {S H : Hp} (sh : Ext S H) : ∀ {kvs : List (Int × Int)} {vs : List V}, HasL S (kvs.map fun q => .tup [.int q.1, .int q.2]) vs →
    ∃ ps : List Addr, vs = ps.map V.ref ∧ Paired (fun p (kv : Key × V) => SqT K H p [kV kv.1, kv.2]) ps (dicV kvs)
  | [], vs, h => ⟨[], h, .nil⟩
  | q :: kvs, _, ⟨v, r, e, ⟨a, us, e2, hd, hl⟩, h2⟩ => by
    obtain ⟨ps, e3, hp⟩ := pairs_has (K := K) sh h2
    obtain ⟨o, ho, od⟩ := hd
    obtain ⟨x, _, rfl, hx, y, _, rfl, hy, rfl⟩ := hl
    obtain rfl : x = _ := hx
    obtain rfl : y = _ := hy
    exact ⟨a :: ps, by rw [e, e2, e3]; rfl, .cons (TupF.sq ⟨o, sh _ _ ho, od⟩) hp⟩
theorem bc_dict {kvs : List (Int × Int)} (hc : X.calm = true) (nd : (kvs.map (·.1)).Nodup) (h : R (.dic kvs)) : Bc X B (.type "dict") [.dat (.lst (kvs.map fun q => .tup [.int q.1, .int q.2]))] δ R := fun S H σ vs ok ⟨v, r, e1, ⟨a, us, e2, ho, hl⟩, e3⟩ Q q => by
  obtain rfl : r = [] := e3
  subst e1 e2
  obtain ⟨ps, rfl, hp⟩ := pairs_has (K := X.K) ok.sh hl
  refine ⟨_, call_dictP hc, a, ps, dicV kvs, rfl, SqL.of (ok.sh _ _ ho), hp, fun p np => ?_⟩
  rw [mergeK_new (by rw [List.nil_append, dicV_keys]; exact List.Pairwise.map (R := (· ≠ ·)) (S := (· ≠ ·)) _ (fun a b (z : a ≠ b) y => z (Sum.inl.inj y)) nd)]
  have gn := ok.gnew (o := .dK ([] ++ dicV kvs)) np
  exact q _ _ _ _ h gn ⟨p, rfl, upd_same⟩
/-- a try that runs through -/
theorem ex_try {sts : List Stmt} {hd : ExceptHandler} {hs : List ExceptHandler} (h : Exs X.nox B sts δ p) : Ex X B (.Try sts (hd :: hs) [] [] pos) δ p := fun S H σ ok E m => by
  obtain ⟨t, ht, z⟩ := h S H σ ok E m
  exact ⟨_, ps_try_thru0 ht, z⟩
/-! a dict of one's own -/
theorem ex_ownDict (i : Nat) {x : Str} {pos' pl : Pos} (hN : X.N.Nodup) (h : p.n (δ.set i (.own (.t []) []))) (hi : X.N[i]? = some x := by rfl) (hx : Loc X.env.scope x := by first | exact .inl rfl | exact .inr rfl)
    (hs : swapsWith (.Dict [] [] pl) (some (.Name x pos')) pos.line X.env = pure false := by rfl) (hf : X.fn x = true ∨ X.env.scope.names.lookup x = some .local := by first | exact .inl rfl | exact .inr rfl | assumption) : Ex X B (.Assign [.Name x pos'] (.Dict [] [] pl) pos) δ p := fun S H σ ok E m =>
  ⟨_, ps_set (i := i) hN hi hx pe_dnewK hs hf, fun q nq => by
    have n0 : B.H0 q = none := by
      cases e : B.H0 q with
      | none => rfl
      | some u => exact absurd nq (ok.base.up q (by rw [e]; exact fun z => nomatch z))
    refine m.n _ _ _ _ (Ext.refl S) (ok.putOwn (i := i) (kd := .t []) (xs := []) (vs := []) (a := q) (ok.snone nq) (fun w => ok.wne w nq) n0 (fun j k ys _ hj hs => ?_) rfl rfl) h
    obtain ⟨b, us, o⟩ := ok.ownAt hj
    have e2 : b = q := by have e3 := o.sl; rw [hs] at e3; cases e3; rfl
    have e3 := o.h0
    rw [e2, nq] at e3
    cases e3⟩
abbrev trues (ks : List Int) : List (Key × V) := ks.map fun k => ((Sum.inl k : Key), V.bl true)
theorem valV_trues {i : Int} : ∀ {ks : List Int}, (valV (trues ks) (Sum.inl i)).isSome = decide (i ∈ ks)
  | [] => rfl
  | k :: ks => by
    by_cases e : k = i
    · subst e
      rw [show trues (k :: ks) = (Sum.inl k, V.bl true) :: trues ks from rfl, valV_pos rfl]
      simp
    · rw [show trues (k :: ks) = (Sum.inl k, V.bl true) :: trues ks from rfl, valV_neg (fun z => e (Sum.inl.inj z)), valV_trues]
      rw [decide_eq_decide, List.mem_cons]
      exact ⟨.inr, fun z => z.resolve_left fun y => e y.symm⟩
theorem et_inOwn (i : Nat) {x : Str} {ks : List Int} {p2 : Pos} {T : Bool → Prop} (hr : Room k X.A) (hd : δ[i]? = some (.own (.t ks) [])) (h : Ev X B e δ fun d => ∃ j : Int, d = .int j ∧ T (decide (j ∈ ks))) (hN : X.N[i]? = some x := by rfl)
    (hv : Vis X.env.scope x := by first | exact Or.inl rfl | exact Or.inr (Or.inl rfl) | exact Or.inr (Or.inr rfl)) (h1 : (x == ("__debug__" : Str)) = false := by decide) (h2 : (x == ("__classdict__" : Str)) = false := by decide)
    (hm : behindInMarks .In (.Name x p2) = false := by rfl) : Et X B (.Compare e [.In] [.Name x p2] pos) δ T := fun S H σ ok Q q =>
  ⟨_, pt_cmp (pc_din (hu_of hr) (pe_u e) (pe_var (i := i) hN hv h1 h2)) hm, h S H σ ok _ fun v d S1 H1 ⟨j, e1, z⟩ g1 r1 => by
    subst e1
    obtain ⟨a, vs, o⟩ := (ok.grow g1).ownAt hd
    have g : DGet H1 a v (valV (trues ks) (Sum.inl j)) := by
      rw [show v = V.int j from r1]
      exact DGet.k (k := Sum.inl j) o.h0
    exact ⟨V.ref a, o.sl, a, valV (trues ks) (Sum.inl j), rfl, g, decide (j ∈ ks), by rw [valV_trues], q _ S1 H1 z g1⟩⟩
theorem ex_putOwn (i : Nat) {x : Str} {ks : List Int} {p1 p2 p3 : Pos} {jj : Nat} (hr : Room k X.A) (hd : δ[i]? = some (.own (.t ks) [])) (hz : ks.length < sizeLine) (h : Ev X B e δ fun d => ∃ j : Int, d = .int j ∧ j ∉ ks ∧ p.n (δ.set i (.own (.t (ks ++ [j])) []))) (hN : X.N[i]? = some x := by rfl)
    (hv : Vis X.env.scope x := by first | exact Or.inl rfl | exact Or.inr (Or.inl rfl) | exact Or.inr (Or.inr rfl)) (h1 : (x == ("__debug__" : Str)) = false := by decide) (h2 : (x == ("__classdict__" : Str)) = false := by decide)
    (hs : swapsWith (.Constant (.bool true) jj p3) (some (.Subscript (.Name x p1) e p2)) pos.line X.env = pure false := by rfl) : Ex X B (.Assign [.Subscript (.Name x p1) e p2] (.Constant (.bool true) jj p3) pos) δ p := fun S H σ ok E m => by
  obtain ⟨a, vs, o⟩ := ok.ownAt hd
  refine ⟨_, ps_dput (hu_of hr) (pe_var (i := i) hN hv h1 h2) (pe_u e) pe_bl hs, _, o.sl, h S H σ ok _ fun v d S1 H1 ⟨j, e1, nj, z⟩ g1 r1 => ?_⟩
  subst e1
  have ok1 := ok.grow g1
  obtain ⟨a2, vs2, o2⟩ := ok1.ownAt hd
  have e2 : a2 = a := by have e3 := o2.sl; rw [o.sl] at e3; cases e3; rfl
  subst e2
  have hv : vs2 = [] := o2.has
  subst hv
  refine ⟨a2, _, rfl, by rw [show v = V.int j from r1]; exact DPut.k (k := Sum.inl j) o2.h0 (by rw [List.length_map]; exact hz), ?_⟩
  have ok2 := ok1.putOwn (i := i) (kd := .t (ks ++ [j])) (xs := []) (vs := []) o2.s0 o2.nw o2.n0 o2.sep rfl rfl
  rw [set_same o2.sl] at ok2
  have e3 : putK (trues ks) (Sum.inl j) (V.bl true) = trues (ks ++ [j]) := by
    rw [putK_new]
    · unfold trues; rw [List.map_append]; rfl
    · unfold trues
      rw [List.map_map]
      intro y
      obtain ⟨q, hq, e⟩ := List.mem_map.mp y
      exact nj ((Sum.inl.inj e) ▸ hq)
  rw [show (putK (List.map (fun k => ((Sum.inl k : Key), V.bl true)) ks) (Sum.inl j) (V.bl true)) = trues (ks ++ [j]) from e3]
  exact m.n _ _ _ _ g1.ss ok2 z
end
end BA

set_option maxHeartbeats 0
namespace BA
open PySem PySem.Spec PyProof.Rows L2
/-! the text by places -/
def top (i : Nat) : Stmt := PySem.Challenge.pw_boughswap_k39_whole_opens_in_either_orde.main.body.getD i (.Pass ⟨0, 0, 0, 0⟩)
abbrev s_is_whole : Stmt := top 12
abbrev s_ends_in : Stmt := top 14
abbrev s_trees_in : Stmt := top 15
abbrev s_is_rack : Stmt := top 19
abbrev s_sure_rack : Stmt := top 20
abbrev s_is_among : Stmt := top 21
abbrev s_is_thing : Stmt := top 22
abbrev s_tree_end : Stmt := top 25
abbrev s_slot_begin : Stmt := top 26
abbrev s_opened_forms : Stmt := top 27
abbrev s_closed_form : Stmt := top 28
abbrev s_is_order : Stmt := top 29
abbrev s_rack_unless : Stmt := top 30
abbrev s_can_close : Stmt := top 31
abbrev s_can_do : Stmt := top 32
abbrev s_forms_after : Stmt := top 33
abbrev s_rack_after : Stmt := top 34
abbrev s_undone_step : Stmt := top 35
abbrev s_moved : Stmt := top 36
abbrev s_led_to : Stmt := top 37
abbrev s_is_name : Stmt := top 43
abbrev s_is_maker_row : Stmt := top 44
abbrev s_are_makers : Stmt := top 45
abbrev s_Kind_init : Stmt := inClass (top 46) 0
abbrev s_Kind_eq : Stmt := inClass (top 46) 1
abbrev s_Kind_len : Stmt := inClass (top 46) 2
abbrev s_Kind_sure_maker : Stmt := inClass (top 46) 4
abbrev s_Kind_within : Stmt := inClass (top 46) 6
abbrev s_racks_on : Stmt := top 48
abbrev s_Turning_init : Stmt := inClass (top 49) 0
abbrev s_Turning_steps : Stmt := inClass (top 49) 3
abbrev s_Turning_racks : Stmt := inClass (top 49) 4
abbrev s_Turning_run : Stmt := inClass (top 49) 5
abbrev s_Turning_back : Stmt := inClass (top 49) 6
abbrev s_Turning_turned : Stmt := inClass (top 49) 7
abbrev s_join : Stmt := top 50
abbrev s_asked_rows : Stmt := top 53
abbrev s_grown_at : Stmt := top 54
abbrev s_hole_opened : Stmt := top 55
abbrev s_parted_rows : Stmt := top 56
abbrev s_rows_behind : Stmt := top 57
abbrev s_table_of : Stmt := top 58
abbrev s_parting_rows : Stmt := top 59
abbrev s_are_same : Stmt := top 60
abbrev s__law_well : Stmt := top 62
abbrev s__law_draw : Stmt := top 63
abbrev s__law_within : Stmt := top 64
abbrev s__law_house : Stmt := top 65
abbrev s__law_row : Stmt := top 66
abbrev s__law_first_way : Stmt := top 67
abbrev s__law_second_way : Stmt := top 68
abbrev s__law_two_forms : Stmt := top 69
abbrev s__law_walked : Stmt := top 70
abbrev s__law_alike : Stmt := top 71
abbrev s_law : Stmt := top 72
def d_is_whole : He.DefD := ⟨("is_whole", none), "is_whole", "is_whole", defArgs s_is_whole, defBody s_is_whole, defScope s_is_whole, [], []⟩
def d_ends_in : He.DefD := ⟨("ends_in", none), "ends_in", "ends_in", defArgs s_ends_in, defBody s_ends_in, defScope s_ends_in, [], []⟩
def d_trees_in : He.DefD := ⟨("trees_in", none), "trees_in", "trees_in", defArgs s_trees_in, defBody s_trees_in, defScope s_trees_in, [], []⟩
def d_is_rack : He.DefD := ⟨("is_rack", none), "is_rack", "is_rack", defArgs s_is_rack, defBody s_is_rack, defScope s_is_rack, [], []⟩
def d_sure_rack : He.DefD := ⟨("sure_rack", none), "sure_rack", "sure_rack", defArgs s_sure_rack, defBody s_sure_rack, defScope s_sure_rack, [], []⟩
def d_is_among : He.DefD := ⟨("is_among", none), "is_among", "is_among", defArgs s_is_among, defBody s_is_among, defScope s_is_among, [], []⟩
def d_is_thing : He.DefD := ⟨("is_thing", none), "is_thing", "is_thing", defArgs s_is_thing, defBody s_is_thing, defScope s_is_thing, [], []⟩
def d_tree_end : He.DefD := ⟨("tree_end", none), "tree_end", "tree_end", defArgs s_tree_end, defBody s_tree_end, defScope s_tree_end, [], []⟩
def d_slot_begin : He.DefD := ⟨("slot_begin", none), "slot_begin", "slot_begin", defArgs s_slot_begin, defBody s_slot_begin, defScope s_slot_begin, [], []⟩
def d_opened_forms : He.DefD := ⟨("opened_forms", none), "opened_forms", "opened_forms", defArgs s_opened_forms, defBody s_opened_forms, defScope s_opened_forms, [], []⟩
def d_closed_form : He.DefD := ⟨("closed_form", none), "closed_form", "closed_form", defArgs s_closed_form, defBody s_closed_form, defScope s_closed_form, [], []⟩
def d_is_order : He.DefD := ⟨("is_order", none), "is_order", "is_order", defArgs s_is_order, defBody s_is_order, defScope s_is_order, [], []⟩
def d_rack_unless : He.DefD := ⟨("rack_unless", none), "rack_unless", "rack_unless", defArgs s_rack_unless, defBody s_rack_unless, defScope s_rack_unless, [], []⟩
def d_can_close : He.DefD := ⟨("can_close", none), "can_close", "can_close", defArgs s_can_close, defBody s_can_close, defScope s_can_close, [], []⟩
def d_can_do : He.DefD := ⟨("can_do", none), "can_do", "can_do", defArgs s_can_do, defBody s_can_do, defScope s_can_do, [], []⟩
def d_forms_after : He.DefD := ⟨("forms_after", none), "forms_after", "forms_after", defArgs s_forms_after, defBody s_forms_after, defScope s_forms_after, [], []⟩
def d_rack_after : He.DefD := ⟨("rack_after", none), "rack_after", "rack_after", defArgs s_rack_after, defBody s_rack_after, defScope s_rack_after, [], []⟩
def d_undone_step : He.DefD := ⟨("undone_step", none), "undone_step", "undone_step", defArgs s_undone_step, defBody s_undone_step, defScope s_undone_step, [], []⟩
def d_moved : He.DefD := ⟨("moved", none), "moved", "moved", defArgs s_moved, defBody s_moved, defScope s_moved, [], []⟩
def d_led_to : He.DefD := ⟨("led_to", none), "led_to", "led_to", defArgs s_led_to, defBody s_led_to, defScope s_led_to, [], []⟩
def d_is_name : He.DefD := ⟨("is_name", none), "is_name", "is_name", defArgs s_is_name, defBody s_is_name, defScope s_is_name, [], []⟩
def d_is_maker_row : He.DefD := ⟨("is_maker_row", none), "is_maker_row", "is_maker_row", defArgs s_is_maker_row, defBody s_is_maker_row, defScope s_is_maker_row, [], []⟩
def d_are_makers : He.DefD := ⟨("are_makers", none), "are_makers", "are_makers", defArgs s_are_makers, defBody s_are_makers, defScope s_are_makers, [], []⟩
def d_Kind_init : He.DefD := ⟨("Kind", some "__init__"), "__init__", "Kind.__init__", defArgs s_Kind_init, defBody s_Kind_init, defScope s_Kind_init, [], []⟩
def d_Kind_eq : He.DefD := ⟨("Kind", some "__eq__"), "__eq__", "Kind.__eq__", defArgs s_Kind_eq, defBody s_Kind_eq, defScope s_Kind_eq, [], []⟩
def d_Kind_len : He.DefD := ⟨("Kind", some "__len__"), "__len__", "Kind.__len__", defArgs s_Kind_len, defBody s_Kind_len, defScope s_Kind_len, [], []⟩
def d_Kind_sure_maker : He.DefD := ⟨("Kind", some "sure_maker"), "sure_maker", "Kind.sure_maker", defArgs s_Kind_sure_maker, defBody s_Kind_sure_maker, defScope s_Kind_sure_maker, [], []⟩
def d_Kind_within : He.DefD := ⟨("Kind", some "within"), "within", "Kind.within", defArgs s_Kind_within, defBody s_Kind_within, defScope s_Kind_within, [], []⟩
def d_racks_on : He.DefD := ⟨("racks_on", none), "racks_on", "racks_on", defArgs s_racks_on, defBody s_racks_on, defScope s_racks_on, [], []⟩
def d_Turning_init : He.DefD := ⟨("Turning", some "__init__"), "__init__", "Turning.__init__", defArgs s_Turning_init, defBody s_Turning_init, defScope s_Turning_init, [], []⟩
def d_Turning_steps : He.DefD := ⟨("Turning", some "steps"), "steps", "Turning.steps", defArgs s_Turning_steps, defBody s_Turning_steps, defScope s_Turning_steps, [], []⟩
def d_Turning_racks : He.DefD := ⟨("Turning", some "racks"), "racks", "Turning.racks", defArgs s_Turning_racks, defBody s_Turning_racks, defScope s_Turning_racks, [], []⟩
def d_Turning_run : He.DefD := ⟨("Turning", some "run"), "run", "Turning.run", defArgs s_Turning_run, defBody s_Turning_run, defScope s_Turning_run, [], []⟩
def d_Turning_back : He.DefD := ⟨("Turning", some "back"), "back", "Turning.back", defArgs s_Turning_back, defBody s_Turning_back, defScope s_Turning_back, [], []⟩
def d_Turning_turned : He.DefD := ⟨("Turning", some "turned"), "turned", "Turning.turned", defArgs s_Turning_turned, defBody s_Turning_turned, defScope s_Turning_turned, [], []⟩
def d_join : He.DefD := ⟨("join", none), "join", "join", defArgs s_join, defBody s_join, defScope s_join, [], []⟩
def d_asked_rows : He.DefD := ⟨("asked_rows", none), "asked_rows", "asked_rows", defArgs s_asked_rows, defBody s_asked_rows, defScope s_asked_rows, [], []⟩
def d_grown_at : He.DefD := ⟨("grown_at", none), "grown_at", "grown_at", defArgs s_grown_at, defBody s_grown_at, defScope s_grown_at, [], []⟩
def d_hole_opened : He.DefD := ⟨("hole_opened", none), "hole_opened", "hole_opened", defArgs s_hole_opened, defBody s_hole_opened, defScope s_hole_opened, [], []⟩
def d_parted_rows : He.DefD := ⟨("parted_rows", none), "parted_rows", "parted_rows", defArgs s_parted_rows, defBody s_parted_rows, defScope s_parted_rows, [], []⟩
def d_rows_behind : He.DefD := ⟨("rows_behind", none), "rows_behind", "rows_behind", defArgs s_rows_behind, defBody s_rows_behind, defScope s_rows_behind, [], []⟩
def d_table_of : He.DefD := ⟨("table_of", none), "table_of", "table_of", defArgs s_table_of, defBody s_table_of, defScope s_table_of, [], []⟩
def d_parting_rows : He.DefD := ⟨("parting_rows", none), "parting_rows", "parting_rows", defArgs s_parting_rows, defBody s_parting_rows, defScope s_parting_rows, [], []⟩
def d_are_same : He.DefD := ⟨("are_same", none), "are_same", "are_same", defArgs s_are_same, defBody s_are_same, defScope s_are_same, [], []⟩
def d__law_well : He.DefD := ⟨("_law_well", none), "_law_well", "_law_well", defArgs s__law_well, defBody s__law_well, defScope s__law_well, [], []⟩
def d__law_draw : He.DefD := ⟨("_law_draw", none), "_law_draw", "_law_draw", defArgs s__law_draw, defBody s__law_draw, defScope s__law_draw, [], []⟩
def d__law_within : He.DefD := ⟨("_law_within", none), "_law_within", "_law_within", defArgs s__law_within, defBody s__law_within, defScope s__law_within, [], []⟩
def d__law_house : He.DefD := ⟨("_law_house", none), "_law_house", "_law_house", defArgs s__law_house, defBody s__law_house, defScope s__law_house, [], []⟩
def d__law_row : He.DefD := ⟨("_law_row", none), "_law_row", "_law_row", defArgs s__law_row, defBody s__law_row, defScope s__law_row, [], []⟩
def d__law_first_way : He.DefD := ⟨("_law_first_way", none), "_law_first_way", "_law_first_way", defArgs s__law_first_way, defBody s__law_first_way, defScope s__law_first_way, [], []⟩
def d__law_second_way : He.DefD := ⟨("_law_second_way", none), "_law_second_way", "_law_second_way", defArgs s__law_second_way, defBody s__law_second_way, defScope s__law_second_way, [], []⟩
def d__law_two_forms : He.DefD := ⟨("_law_two_forms", none), "_law_two_forms", "_law_two_forms", defArgs s__law_two_forms, defBody s__law_two_forms, defScope s__law_two_forms, [], []⟩
def d__law_walked : He.DefD := ⟨("_law_walked", none), "_law_walked", "_law_walked", defArgs s__law_walked, defBody s__law_walked, defScope s__law_walked, [], []⟩
def d__law_alike : He.DefD := ⟨("_law_alike", none), "_law_alike", "_law_alike", defArgs s__law_alike, defBody s__law_alike, defScope s__law_alike, [], []⟩
def d_law : He.DefD := ⟨("law", none), "law", "law", defArgs s_law, defBody s_law, defScope s_law, [], []⟩
def fnl : List He.DefD := [d_is_whole, d_ends_in, d_trees_in, d_is_rack, d_sure_rack, d_is_among, d_is_thing, d_tree_end, d_slot_begin, d_opened_forms, d_closed_form, d_is_order, d_rack_unless, d_can_close, d_can_do, d_forms_after, d_rack_after, d_undone_step, d_moved, d_led_to, d_is_name, d_is_maker_row, d_are_makers, d_Kind_init, d_Kind_eq, d_Kind_len, d_Kind_sure_maker, d_Kind_within, d_racks_on, d_Turning_init, d_Turning_steps, d_Turning_racks, d_Turning_run, d_Turning_back, d_Turning_turned, d_join, d_asked_rows, d_grown_at, d_hole_opened, d_parted_rows, d_rows_behind, d_table_of, d_parting_rows, d_are_same, d__law_well, d__law_draw, d__law_within, d__law_house, d__law_row, d__law_first_way, d__law_second_way, d__law_two_forms, d__law_walked, d__law_alike, d_law]
def fal : List He.Fa := [.glo "is_whole", .glo "ends_in", .glo "trees_in", .glo "is_rack", .glo "sure_rack", .glo "is_among", .glo "is_thing", .glo "tree_end", .glo "slot_begin", .glo "opened_forms", .glo "closed_form", .glo "is_order", .glo "rack_unless", .glo "can_close", .glo "can_do", .glo "forms_after", .glo "rack_after", .glo "undone_step", .glo "moved", .glo "led_to", .glo "is_name", .glo "is_maker_row", .glo "are_makers", .mkr "Kind", .meth "Kind" "__eq__", .meth "Kind" "__len__", .meth "Kind" "sure_maker", .meth "Kind" "within", .glo "racks_on", .mkr "Turning", .meth "Turning" "steps", .meth "Turning" "racks", .meth "Turning" "run", .meth "Turning" "back", .meth "Turning" "turned", .glo "join", .glo "asked_rows", .glo "grown_at", .glo "hole_opened", .glo "parted_rows", .glo "rows_behind", .glo "table_of", .glo "parting_rows", .glo "are_same", .glo "_law_well", .glo "_law_draw", .glo "_law_within", .glo "_law_house", .glo "_law_row", .glo "_law_first_way", .glo "_law_second_way", .glo "_law_two_forms", .glo "_law_walked", .glo "_law_alike", .glo "law", .glo "Kind", .cls "Kind", .keep "Kind", .glo "Turning", .cls "Turning", .keep "Turning", .noat "Kind" "rows", .noat "Turning" "kind", .noat "Turning" "passed", .noat "Turning" "done", .noat "Turning" "begin", .noat "Turning" "end", .int "MOST_FORMS" (4000), .int "MOST_TREES" (200), .int "HOLE" (-1), .int "MOST_LETTERS" (8), .int "MOST_MAKERS" (5), .int "MOST_WITHIN" (4), .int "MOST_ROWS" (400), .str "LETTERS" "abcdefghijklmnopqrstuvwxyz", .free "isinstance", .free "int", .free "bool", .free "tuple", .free "list", .free "str", .free "enumerate", .free "max", .free "len", .free "zip", .free "all", .free "range", .free "dict", .free "set", .free "reversed", .free "divmod"]
-- facts: 0:.glo "is_whole" 1:.glo "ends_in" 2:.glo "trees_in" 3:.glo "is_rack" 4:.glo "sure_rack" 5:.glo "is_among" 6:.glo "is_thing" 7:.glo "tree_end" 8:.glo "slot_begin" 9:.glo "opened_forms" 10:.glo "closed_form" 11:.glo "is_order" 12:.glo "rack_unless" 13:.glo "can_close" 14:.glo "can_do" 15:.glo "forms_after" 16:.glo "rack_after" 17:.glo "undone_step" 18:.glo "moved" 19:.glo "led_to" 20:.glo "is_name" 21:.glo "is_maker_row" 22:.glo "are_makers" 23:.mkr "Kind" 24:.meth "Kind" "__eq__" 25:.meth "Kind" "__len__" 26:.meth "Kind" "sure_maker" 27:.meth "Kind" "within" 28:.glo "racks_on" 29:.mkr "Turning" 30:.meth "Turning" "steps" 31:.meth "Turning" "racks" 32:.meth "Turning" "run" 33:.meth "Turning" "back" 34:.meth "Turning" "turned" 35:.glo "join" 36:.glo "asked_rows" 37:.glo "grown_at" 38:.glo "hole_opened" 39:.glo "parted_rows" 40:.glo "rows_behind" 41:.glo "table_of" 42:.glo "parting_rows" 43:.glo "are_same" 44:.glo "_law_well" 45:.glo "_law_draw" 46:.glo "_law_within" 47:.glo "_law_house" 48:.glo "_law_row" 49:.glo "_law_first_way" 50:.glo "_law_second_way" 51:.glo "_law_two_forms" 52:.glo "_law_walked" 53:.glo "_law_alike" 54:.glo "law" 55:.glo "Kind" 56:.cls "Kind" 57:.keep "Kind" 58:.glo "Turning" 59:.cls "Turning" 60:.keep "Turning" 61:.noat "Kind" "rows" 62:.noat "Turning" "kind" 63:.noat "Turning" "passed" 64:.noat "Turning" "done" 65:.noat "Turning" "begin" 66:.noat "Turning" "end" 67:.int "MOST_FORMS" (4000) 68:.int "MOST_TREES" (200) 69:.int "HOLE" (-1) 70:.int "MOST_LETTERS" (8) 71:.int "MOST_MAKERS" (5) 72:.int "MOST_WITHIN" (4) 73:.int "MOST_ROWS" (400) 74:.str "LETTERS" "abcdefghijklmnopqrstuvwxyz" 75:.free "isinstance" 76:.free "int" 77:.free "bool" 78:.free "tuple" 79:.free "list" 80:.free "str" 81:.free "enumerate" 82:.free "max" 83:.free "len" 84:.free "zip" 85:.free "all" 86:.free "range" 87:.free "dict" 88:.free "set" 89:.free "reversed" 90:.free "divmod"
abbrev RR : PySem.W.OpenRow := PySem.W.OpenLaw.row PySem.Challenge.rw_boughswap_k39_whole_opens_in_either_orde
def others : List PySem.Str := (["_wall", "__name__", "SwapError", "NoKind", "NoMaker", "NoRack", "NoThing", "NoStep", "NoTurning", "NoMatch", "TooMuch", "is_whole", "ends_in", "trees_in", "MOST_FORMS", "MOST_TREES"] : List PySem.Str) ++ (["is_rack", "sure_rack", "is_among", "is_thing", "HOLE", "tree_end", "slot_begin", "opened_forms", "closed_form", "is_order", "rack_unless", "can_close", "can_do", "forms_after", "rack_after", "undone_step"] : List PySem.Str) ++ (["moved", "led_to", "LETTERS", "MOST_LETTERS", "MOST_MAKERS", "MOST_WITHIN", "is_name", "is_maker_row", "are_makers", "Kind", "racks_on", "Turning", "join", "MOST_ROWS", "asked_rows", "grown_at"] : List PySem.Str) ++ (["hole_opened", "parted_rows", "rows_behind", "table_of", "parting_rows", "are_same", "_law_well", "_law_draw", "_law_within", "_law_house", "_law_row", "_law_first_way", "_law_second_way", "_law_two_forms", "_law_walked", "_law_alike"] : List PySem.Str)
/-- what of Kind isinstance and != ask -/
def exB (K : PySem.W.Frag) : Bool :=
  decide (PySem.W.findIn K (.ref (He.ga K "Kind")) "__class__" = some (some (.builtin "object.__class__"))) &&
  (decide (PySem.W.specialIn K (.builtin "object.__class__") "__get__" = some (some (.builtin "getset_descriptor.__get__"))) &&
  (decide (PySem.W.takesIn K (.builtin "object.__class__") = some true) &&
  (decide (PySem.W.mroIn K (He.ga K "Kind") (.type "object") = some true) &&
  (decide (PySem.W.kitOne K (.ref (He.ga K "Kind")) (.ref (He.ga K "Kind")) = some true) &&
  decide (PySem.W.findIn K (.ref (He.ga K "Kind")) "__ne__" = some (some (.builtin "object.__ne__")))))))
abbrev AlE : Type := He.AlD × Bool
def obsEX (K : PySem.W.Frag) : AlE := (He.obsD fal fnl K, exB K)
abbrev hk : PySem.W.Hook where
  α := AlE
  obs := fun s => obsEX (He.frG s.heap.get? (He.asD s.heap.get? 5))
  val := fun _ => (He.valD fnl, true)
  says := fun _ h => ∃ K : PySem.W.Frag, K.In h ∧ He.SaysD fal fnl K ∧ exB K = true
  of := fun _ _ e => ⟨_, He.frG_in, congrArg (fun z : AlE => z.1) e, congrArg (fun z : AlE => z.2) e⟩
  keeps := fun _ _ _ ⟨K, hK, c⟩ k => ⟨K, PySem.W.Frag.In.keeps hK k, c⟩
def ob (s : PySem.W.SharedT) : AlE := obsEX (He.frG (HandSHeadRun.getT s) (He.asD (HandSHeadRun.getT s) 5))
theorem ob_eq (s : PySem.W.SharedT) : ob s = hk.obs s.abs := by
  have e : HandSHeadRun.getT s = s.abs.heap.get? := funext (HandSHeadRun.getT_eq s)
  show obsEX _ = obsEX _
  rw [e]
theorem run (w : World) : HandSHeadRun.RunEq RR (PySem.W.view RR.prog [72]) hk ob 6000 others w := by
  intro os
  kernel_rfl
end BA

set_option maxHeartbeats 4000000
namespace BA
open PySem PySem.Spec PyProof.Rows L2
/-- what the head tells of the text -/
structure Txt (K : PySem.W.Frag) (mg : Str → Option Value) : Prop where
  c : He.SaysD fal fnl K
  x : exB K = true
  glo : ∀ {x : Str}, (He.Fa.glo x).ok K = true → mg x = some (.ref (He.ga K x))
  free : ∀ {x : Str}, (He.Fa.free x).ok K = true → mg x = none
  int : ∀ {x : Str} {i : Int}, (He.Fa.int x i).ok K = true → ∃ t, mg x = some (.int i t)
  str : ∀ {x z : Str}, (He.Fa.str x z).ok K = true → ∃ t, mg x = some (.str z t)
theorem Txt.of {K : PySem.W.Frag} {h : Heap} {mg : Str → Option Value} (X : K.In h) (G : h.Ns mainGlobals mg) (c : He.SaysD fal fnl K) (x : exB K = true) : Txt K mg :=
  ⟨c, x, He.glo_ok X G, He.free_ok X G, He.int_ok X G, He.str_ok X G⟩
abbrev CK (K : PySem.W.Frag) : Addr := He.ga K "Kind"
abbrev CT (K : PySem.W.Frag) : Addr := He.ga K "Turning"
section
variable {P : Program} {w : World} {K : PySem.W.Frag} {mg : Str → Option Value} {base : Heap} {k : Nat} {c : Con}
abbrev N_is_whole : List Str := ["thing", "low", "high"]
abbrev P_is_whole : List Str := ["thing", "low", "high"]
theorem sc_is_whole : FnScope N_is_whole P_is_whole (defScope s_is_whole) := ⟨rfl, rfl, rfl, by decide +kernel, rfl, by decide +kernel, by decide +kernel⟩
theorem m_is_whole (T : Txt K mg) (hl : ∀ x, (c.args x).length = 3) (hb : ∀ (f : Addr) (cdv : Value) (A : Around) (outer : List Env) (s : Shared) (H : Hp) (E : XK), Room k (A.deeper (envOfC "is_whole" (defScope s_is_whole) s.heap.objs.size f cdv)) → ∀ (B : Base) (x : c.α), c.pre x →
    Exs (cxOf CX0 P w K mg base N_is_whole "is_whole" (defScope s_is_whole) f cdv A outer s H E).nox B (defBody s_is_whole) (env0 N_is_whole (c.args x)) ⟨fun _ => c.post x .non, c.post x, fun _ => False, fun _ => False⟩) : DefOk P w K mg base (k + 1) "is_whole" c := by
  obtain ⟨fd, F⟩ := T.c.def_ 0 (d := d_is_whole) rfl
  exact ⟨_, fd, P_is_whole, T.glo (T.c.fact 0 (f := .glo "is_whole") rfl), F.kp, F.bindsN fun _ _ _ _ _ _ us hl => match us, hl with | [_, _, _], _ => rfl, mk_def F sc_is_whole hl (by decide) (hb _)⟩
abbrev N_ends_in : List Str := ["kind", "thing", "found", "wanted", "at", "maker"]
abbrev P_ends_in : List Str := ["kind", "thing"]
theorem sc_ends_in : FnScope N_ends_in P_ends_in (defScope s_ends_in) := ⟨rfl, rfl, rfl, by decide +kernel, rfl, by decide +kernel, by decide +kernel⟩
theorem m_ends_in (T : Txt K mg) (hl : ∀ x, (c.args x).length = 2) (hb : ∀ (f : Addr) (cdv : Value) (A : Around) (outer : List Env) (s : Shared) (H : Hp) (E : XK), Room k (A.deeper (envOfC "ends_in" (defScope s_ends_in) s.heap.objs.size f cdv)) → ∀ (B : Base) (x : c.α), c.pre x →
    Exs (cxOf CX0 P w K mg base N_ends_in "ends_in" (defScope s_ends_in) f cdv A outer s H E).nox B (defBody s_ends_in) (env0 N_ends_in (c.args x)) ⟨fun _ => c.post x .non, c.post x, fun _ => False, fun _ => False⟩) : DefOk P w K mg base (k + 1) "ends_in" c := by
  obtain ⟨fd, F⟩ := T.c.def_ 1 (d := d_ends_in) rfl
  exact ⟨_, fd, P_ends_in, T.glo (T.c.fact 1 (f := .glo "ends_in") rfl), F.kp, F.bindsN fun _ _ _ _ _ _ us hl => match us, hl with | [_, _], _ => rfl, mk_def F sc_ends_in hl (by decide) (hb _)⟩
abbrev N_trees_in : List Str := ["kind", "row", "ends", "begin", "end"]
abbrev P_trees_in : List Str := ["kind", "row"]
theorem sc_trees_in : FnScope N_trees_in P_trees_in (defScope s_trees_in) := ⟨rfl, rfl, rfl, by decide +kernel, rfl, by decide +kernel, by decide +kernel⟩
theorem m_trees_in (T : Txt K mg) (hl : ∀ x, (c.args x).length = 2) (hb : ∀ (f : Addr) (cdv : Value) (A : Around) (outer : List Env) (s : Shared) (H : Hp) (E : XK), Room k (A.deeper (envOfC "trees_in" (defScope s_trees_in) s.heap.objs.size f cdv)) → ∀ (B : Base) (x : c.α), c.pre x →
    Exs (cxOf CX0 P w K mg base N_trees_in "trees_in" (defScope s_trees_in) f cdv A outer s H E).nox B (defBody s_trees_in) (env0 N_trees_in (c.args x)) ⟨fun _ => c.post x .non, c.post x, fun _ => False, fun _ => False⟩) : DefOk P w K mg base (k + 1) "trees_in" c := by
  obtain ⟨fd, F⟩ := T.c.def_ 2 (d := d_trees_in) rfl
  exact ⟨_, fd, P_trees_in, T.glo (T.c.fact 2 (f := .glo "trees_in") rfl), F.kp, F.bindsN fun _ _ _ _ _ _ us hl => match us, hl with | [_, _], _ => rfl, mk_def F sc_trees_in hl (by decide) (hb _)⟩
abbrev N_is_rack : List Str := ["thing", "form"]
abbrev P_is_rack : List Str := ["thing"]
theorem sc_is_rack : FnScope N_is_rack P_is_rack (defScope s_is_rack) := ⟨rfl, rfl, rfl, by decide +kernel, rfl, by decide +kernel, by decide +kernel⟩
theorem m_is_rack (T : Txt K mg) (hl : ∀ x, (c.args x).length = 1) (hb : ∀ (f : Addr) (cdv : Value) (A : Around) (outer : List Env) (s : Shared) (H : Hp) (E : XK), Room k (A.deeper (envOfC "is_rack" (defScope s_is_rack) s.heap.objs.size f cdv)) → ∀ (B : Base) (x : c.α), c.pre x →
    Exs (cxOf CX0 P w K mg base N_is_rack "is_rack" (defScope s_is_rack) f cdv A outer s H E).nox B (defBody s_is_rack) (env0 N_is_rack (c.args x)) ⟨fun _ => c.post x .non, c.post x, fun _ => False, fun _ => False⟩) : DefOk P w K mg base (k + 1) "is_rack" c := by
  obtain ⟨fd, F⟩ := T.c.def_ 3 (d := d_is_rack) rfl
  exact ⟨_, fd, P_is_rack, T.glo (T.c.fact 3 (f := .glo "is_rack") rfl), F.kp, F.bindsN fun _ _ _ _ _ _ us hl => match us, hl with | [_], _ => rfl, mk_def F sc_is_rack hl (by decide) (hb _)⟩
abbrev N_sure_rack : List Str := ["thing"]
abbrev P_sure_rack : List Str := ["thing"]
theorem sc_sure_rack : FnScope N_sure_rack P_sure_rack (defScope s_sure_rack) := ⟨rfl, rfl, rfl, by decide +kernel, rfl, by decide +kernel, by decide +kernel⟩
theorem m_sure_rack (T : Txt K mg) (hl : ∀ x, (c.args x).length = 1) (hb : ∀ (f : Addr) (cdv : Value) (A : Around) (outer : List Env) (s : Shared) (H : Hp) (E : XK), Room k (A.deeper (envOfC "sure_rack" (defScope s_sure_rack) s.heap.objs.size f cdv)) → ∀ (B : Base) (x : c.α), c.pre x →
    Exs (cxOf CX0 P w K mg base N_sure_rack "sure_rack" (defScope s_sure_rack) f cdv A outer s H E).nox B (defBody s_sure_rack) (env0 N_sure_rack (c.args x)) ⟨fun _ => c.post x .non, c.post x, fun _ => False, fun _ => False⟩) : DefOk P w K mg base (k + 1) "sure_rack" c := by
  obtain ⟨fd, F⟩ := T.c.def_ 4 (d := d_sure_rack) rfl
  exact ⟨_, fd, P_sure_rack, T.glo (T.c.fact 4 (f := .glo "sure_rack") rfl), F.kp, F.bindsN fun _ _ _ _ _ _ us hl => match us, hl with | [_], _ => rfl, mk_def F sc_sure_rack hl (by decide) (hb _)⟩
abbrev N_is_among : List Str := ["kind", "rack", "thing", "trees"]
abbrev P_is_among : List Str := ["kind", "rack", "thing"]
theorem sc_is_among : FnScope N_is_among P_is_among (defScope s_is_among) := ⟨rfl, rfl, rfl, by decide +kernel, rfl, by decide +kernel, by decide +kernel⟩
theorem m_is_among (T : Txt K mg) (hl : ∀ x, (c.args x).length = 3) (hb : ∀ (f : Addr) (cdv : Value) (A : Around) (outer : List Env) (s : Shared) (H : Hp) (E : XK), Room k (A.deeper (envOfC "is_among" (defScope s_is_among) s.heap.objs.size f cdv)) → ∀ (B : Base) (x : c.α), c.pre x →
    Exs (cxOf CX0 P w K mg base N_is_among "is_among" (defScope s_is_among) f cdv A outer s H E).nox B (defBody s_is_among) (env0 N_is_among (c.args x)) ⟨fun _ => c.post x .non, c.post x, fun _ => False, fun _ => False⟩) : DefOk P w K mg base (k + 1) "is_among" c := by
  obtain ⟨fd, F⟩ := T.c.def_ 5 (d := d_is_among) rfl
  exact ⟨_, fd, P_is_among, T.glo (T.c.fact 5 (f := .glo "is_among") rfl), F.kp, F.bindsN fun _ _ _ _ _ _ us hl => match us, hl with | [_, _, _], _ => rfl, mk_def F sc_is_among hl (by decide) (hb _)⟩
abbrev N_is_thing : List Str := ["kind", "rack", "thing"]
abbrev P_is_thing : List Str := ["kind", "rack", "thing"]
theorem sc_is_thing : FnScope N_is_thing P_is_thing (defScope s_is_thing) := ⟨rfl, rfl, rfl, by decide +kernel, rfl, by decide +kernel, by decide +kernel⟩
theorem m_is_thing (T : Txt K mg) (hl : ∀ x, (c.args x).length = 3) (hb : ∀ (f : Addr) (cdv : Value) (A : Around) (outer : List Env) (s : Shared) (H : Hp) (E : XK), Room k (A.deeper (envOfC "is_thing" (defScope s_is_thing) s.heap.objs.size f cdv)) → ∀ (B : Base) (x : c.α), c.pre x →
    Exs (cxOf CX0 P w K mg base N_is_thing "is_thing" (defScope s_is_thing) f cdv A outer s H E).nox B (defBody s_is_thing) (env0 N_is_thing (c.args x)) ⟨fun _ => c.post x .non, c.post x, fun _ => False, fun _ => False⟩) : DefOk P w K mg base (k + 1) "is_thing" c := by
  obtain ⟨fd, F⟩ := T.c.def_ 6 (d := d_is_thing) rfl
  exact ⟨_, fd, P_is_thing, T.glo (T.c.fact 6 (f := .glo "is_thing") rfl), F.kp, F.bindsN fun _ _ _ _ _ _ us hl => match us, hl with | [_, _, _], _ => rfl, mk_def F sc_is_thing hl (by decide) (hb _)⟩
abbrev N_tree_end : List Str := ["kind", "row", "at", "wanted"]
abbrev P_tree_end : List Str := ["kind", "row", "at"]
theorem sc_tree_end : FnScope N_tree_end P_tree_end (defScope s_tree_end) := ⟨rfl, rfl, rfl, by decide +kernel, rfl, by decide +kernel, by decide +kernel⟩
theorem m_tree_end (T : Txt K mg) (hl : ∀ x, (c.args x).length = 3) (hb : ∀ (f : Addr) (cdv : Value) (A : Around) (outer : List Env) (s : Shared) (H : Hp) (E : XK), Room k (A.deeper (envOfC "tree_end" (defScope s_tree_end) s.heap.objs.size f cdv)) → ∀ (B : Base) (x : c.α), c.pre x →
    Exs (cxOf CX0 P w K mg base N_tree_end "tree_end" (defScope s_tree_end) f cdv A outer s H E).nox B (defBody s_tree_end) (env0 N_tree_end (c.args x)) ⟨fun _ => c.post x .non, c.post x, fun _ => False, fun _ => False⟩) : DefOk P w K mg base (k + 1) "tree_end" c := by
  obtain ⟨fd, F⟩ := T.c.def_ 7 (d := d_tree_end) rfl
  exact ⟨_, fd, P_tree_end, T.glo (T.c.fact 7 (f := .glo "tree_end") rfl), F.kp, F.bindsN fun _ _ _ _ _ _ us hl => match us, hl with | [_, _, _], _ => rfl, mk_def F sc_tree_end hl (by decide) (hb _)⟩
abbrev N_slot_begin : List Str := ["kind", "row", "slot", "at", "k"]
abbrev P_slot_begin : List Str := ["kind", "row", "slot"]
theorem sc_slot_begin : FnScope N_slot_begin P_slot_begin (defScope s_slot_begin) := ⟨rfl, rfl, rfl, by decide +kernel, rfl, by decide +kernel, by decide +kernel⟩
theorem m_slot_begin (T : Txt K mg) (hl : ∀ x, (c.args x).length = 3) (hb : ∀ (f : Addr) (cdv : Value) (A : Around) (outer : List Env) (s : Shared) (H : Hp) (E : XK), Room k (A.deeper (envOfC "slot_begin" (defScope s_slot_begin) s.heap.objs.size f cdv)) → ∀ (B : Base) (x : c.α), c.pre x →
    Exs (cxOf CX0 P w K mg base N_slot_begin "slot_begin" (defScope s_slot_begin) f cdv A outer s H E).nox B (defBody s_slot_begin) (env0 N_slot_begin (c.args x)) ⟨fun _ => c.post x .non, c.post x, fun _ => False, fun _ => False⟩) : DefOk P w K mg base (k + 1) "slot_begin" c := by
  obtain ⟨fd, F⟩ := T.c.def_ 8 (d := d_slot_begin) rfl
  exact ⟨_, fd, P_slot_begin, T.glo (T.c.fact 8 (f := .glo "slot_begin") rfl), F.kp, F.bindsN fun _ _ _ _ _ _ us hl => match us, hl with | [_, _, _], _ => rfl, mk_def F sc_slot_begin hl (by decide) (hb _)⟩
abbrev N_opened_forms : List Str := ["kind", "many", "maker"]
abbrev P_opened_forms : List Str := ["kind", "many"]
theorem sc_opened_forms : FnScope N_opened_forms P_opened_forms (defScope s_opened_forms) := ⟨rfl, rfl, rfl, by decide +kernel, rfl, by decide +kernel, by decide +kernel⟩
theorem m_opened_forms (T : Txt K mg) (hl : ∀ x, (c.args x).length = 2) (hb : ∀ (f : Addr) (cdv : Value) (A : Around) (outer : List Env) (s : Shared) (H : Hp) (E : XK), Room k (A.deeper (envOfC "opened_forms" (defScope s_opened_forms) s.heap.objs.size f cdv)) → ∀ (B : Base) (x : c.α), c.pre x →
    Exs (cxOf CX0 P w K mg base N_opened_forms "opened_forms" (defScope s_opened_forms) f cdv A outer s H E).nox B (defBody s_opened_forms) (env0 N_opened_forms (c.args x)) ⟨fun _ => c.post x .non, c.post x, fun _ => False, fun _ => False⟩) : DefOk P w K mg base (k + 1) "opened_forms" c := by
  obtain ⟨fd, F⟩ := T.c.def_ 9 (d := d_opened_forms) rfl
  exact ⟨_, fd, P_opened_forms, T.glo (T.c.fact 9 (f := .glo "opened_forms") rfl), F.kp, F.bindsN fun _ _ _ _ _ _ us hl => match us, hl with | [_, _], _ => rfl, mk_def F sc_opened_forms hl (by decide) (hb _)⟩
abbrev N_closed_form : List Str := ["kind", "rack", "place", "many"]
abbrev P_closed_form : List Str := ["kind", "rack", "place"]
theorem sc_closed_form : FnScope N_closed_form P_closed_form (defScope s_closed_form) := ⟨rfl, rfl, rfl, by decide +kernel, rfl, by decide +kernel, by decide +kernel⟩
theorem m_closed_form (T : Txt K mg) (hl : ∀ x, (c.args x).length = 3) (hb : ∀ (f : Addr) (cdv : Value) (A : Around) (outer : List Env) (s : Shared) (H : Hp) (E : XK), Room k (A.deeper (envOfC "closed_form" (defScope s_closed_form) s.heap.objs.size f cdv)) → ∀ (B : Base) (x : c.α), c.pre x →
    Exs (cxOf CX0 P w K mg base N_closed_form "closed_form" (defScope s_closed_form) f cdv A outer s H E).nox B (defBody s_closed_form) (env0 N_closed_form (c.args x)) ⟨fun _ => c.post x .non, c.post x, fun _ => False, fun _ => False⟩) : DefOk P w K mg base (k + 1) "closed_form" c := by
  obtain ⟨fd, F⟩ := T.c.def_ 10 (d := d_closed_form) rfl
  exact ⟨_, fd, P_closed_form, T.glo (T.c.fact 10 (f := .glo "closed_form") rfl), F.kp, F.bindsN fun _ _ _ _ _ _ us hl => match us, hl with | [_, _, _], _ => rfl, mk_def F sc_closed_form hl (by decide) (hb _)⟩
abbrev N_is_order : List Str := ["rack", "places", "seen", "place"]
abbrev P_is_order : List Str := ["rack", "places"]
theorem sc_is_order : FnScope N_is_order P_is_order (defScope s_is_order) := ⟨rfl, rfl, rfl, by decide +kernel, rfl, by decide +kernel, by decide +kernel⟩
theorem m_is_order (T : Txt K mg) (hl : ∀ x, (c.args x).length = 2) (hb : ∀ (f : Addr) (cdv : Value) (A : Around) (outer : List Env) (s : Shared) (H : Hp) (E : XK), Room k (A.deeper (envOfC "is_order" (defScope s_is_order) s.heap.objs.size f cdv)) → ∀ (B : Base) (x : c.α), c.pre x →
    Exs (cxOf CX0 P w K mg base N_is_order "is_order" (defScope s_is_order) f cdv A outer s H E).nox B (defBody s_is_order) (env0 N_is_order (c.args x)) ⟨fun _ => c.post x .non, c.post x, fun _ => False, fun _ => False⟩) : DefOk P w K mg base (k + 1) "is_order" c := by
  obtain ⟨fd, F⟩ := T.c.def_ 11 (d := d_is_order) rfl
  exact ⟨_, fd, P_is_order, T.glo (T.c.fact 11 (f := .glo "is_order") rfl), F.kp, F.bindsN fun _ _ _ _ _ _ us hl => match us, hl with | [_, _], _ => rfl, mk_def F sc_is_order hl (by decide) (hb _)⟩
abbrev N_rack_unless : List Str := ["rack"]
abbrev P_rack_unless : List Str := ["rack"]
theorem sc_rack_unless : FnScope N_rack_unless P_rack_unless (defScope s_rack_unless) := ⟨rfl, rfl, rfl, by decide +kernel, rfl, by decide +kernel, by decide +kernel⟩
theorem m_rack_unless (T : Txt K mg) (hl : ∀ x, (c.args x).length = 1) (hb : ∀ (f : Addr) (cdv : Value) (A : Around) (outer : List Env) (s : Shared) (H : Hp) (E : XK), Room k (A.deeper (envOfC "rack_unless" (defScope s_rack_unless) s.heap.objs.size f cdv)) → ∀ (B : Base) (x : c.α), c.pre x →
    Exs (cxOf CX0 P w K mg base N_rack_unless "rack_unless" (defScope s_rack_unless) f cdv A outer s H E).nox B (defBody s_rack_unless) (env0 N_rack_unless (c.args x)) ⟨fun _ => c.post x .non, c.post x, fun _ => False, fun _ => False⟩) : DefOk P w K mg base (k + 1) "rack_unless" c := by
  obtain ⟨fd, F⟩ := T.c.def_ 12 (d := d_rack_unless) rfl
  exact ⟨_, fd, P_rack_unless, T.glo (T.c.fact 12 (f := .glo "rack_unless") rfl), F.kp, F.bindsN fun _ _ _ _ _ _ us hl => match us, hl with | [_], _ => rfl, mk_def F sc_rack_unless hl (by decide) (hb _)⟩
abbrev N_can_close : List Str := ["kind", "rack", "place", "slot", "many"]
abbrev P_can_close : List Str := ["kind", "rack", "place", "slot"]
theorem sc_can_close : FnScope N_can_close P_can_close (defScope s_can_close) := ⟨rfl, rfl, rfl, by decide +kernel, rfl, by decide +kernel, by decide +kernel⟩
theorem m_can_close (T : Txt K mg) (hl : ∀ x, (c.args x).length = 4) (hb : ∀ (f : Addr) (cdv : Value) (A : Around) (outer : List Env) (s : Shared) (H : Hp) (E : XK), Room k (A.deeper (envOfC "can_close" (defScope s_can_close) s.heap.objs.size f cdv)) → ∀ (B : Base) (x : c.α), c.pre x →
    Exs (cxOf CX0 P w K mg base N_can_close "can_close" (defScope s_can_close) f cdv A outer s H E).nox B (defBody s_can_close) (env0 N_can_close (c.args x)) ⟨fun _ => c.post x .non, c.post x, fun _ => False, fun _ => False⟩) : DefOk P w K mg base (k + 1) "can_close" c := by
  obtain ⟨fd, F⟩ := T.c.def_ 13 (d := d_can_close) rfl
  exact ⟨_, fd, P_can_close, T.glo (T.c.fact 13 (f := .glo "can_close") rfl), F.kp, F.bindsN fun _ _ _ _ _ _ us hl => match us, hl with | [_, _, _, _], _ => rfl, mk_def F sc_can_close hl (by decide) (hb _)⟩
abbrev N_can_do : List Str := ["kind", "rack", "step", "word", "place", "slot"]
abbrev P_can_do : List Str := ["kind", "rack", "step"]
theorem sc_can_do : FnScope N_can_do P_can_do (defScope s_can_do) := ⟨rfl, rfl, rfl, by decide +kernel, rfl, by decide +kernel, by decide +kernel⟩
theorem m_can_do (T : Txt K mg) (hl : ∀ x, (c.args x).length = 3) (hb : ∀ (f : Addr) (cdv : Value) (A : Around) (outer : List Env) (s : Shared) (H : Hp) (E : XK), Room k (A.deeper (envOfC "can_do" (defScope s_can_do) s.heap.objs.size f cdv)) → ∀ (B : Base) (x : c.α), c.pre x →
    Exs (cxOf CX0 P w K mg base N_can_do "can_do" (defScope s_can_do) f cdv A outer s H E).nox B (defBody s_can_do) (env0 N_can_do (c.args x)) ⟨fun _ => c.post x .non, c.post x, fun _ => False, fun _ => False⟩) : DefOk P w K mg base (k + 1) "can_do" c := by
  obtain ⟨fd, F⟩ := T.c.def_ 14 (d := d_can_do) rfl
  exact ⟨_, fd, P_can_do, T.glo (T.c.fact 14 (f := .glo "can_do") rfl), F.kp, F.bindsN fun _ _ _ _ _ _ us hl => match us, hl with | [_, _, _], _ => rfl, mk_def F sc_can_do hl (by decide) (hb _)⟩
abbrev N_forms_after : List Str := ["kind", "rack", "step", "place"]
abbrev P_forms_after : List Str := ["kind", "rack", "step"]
theorem sc_forms_after : FnScope N_forms_after P_forms_after (defScope s_forms_after) := ⟨rfl, rfl, rfl, by decide +kernel, rfl, by decide +kernel, by decide +kernel⟩
theorem m_forms_after (T : Txt K mg) (hl : ∀ x, (c.args x).length = 3) (hb : ∀ (f : Addr) (cdv : Value) (A : Around) (outer : List Env) (s : Shared) (H : Hp) (E : XK), Room k (A.deeper (envOfC "forms_after" (defScope s_forms_after) s.heap.objs.size f cdv)) → ∀ (B : Base) (x : c.α), c.pre x →
    Exs (cxOf CX0 P w K mg base N_forms_after "forms_after" (defScope s_forms_after) f cdv A outer s H E).nox B (defBody s_forms_after) (env0 N_forms_after (c.args x)) ⟨fun _ => c.post x .non, c.post x, fun _ => False, fun _ => False⟩) : DefOk P w K mg base (k + 1) "forms_after" c := by
  obtain ⟨fd, F⟩ := T.c.def_ 15 (d := d_forms_after) rfl
  exact ⟨_, fd, P_forms_after, T.glo (T.c.fact 15 (f := .glo "forms_after") rfl), F.kp, F.bindsN fun _ _ _ _ _ _ us hl => match us, hl with | [_, _, _], _ => rfl, mk_def F sc_forms_after hl (by decide) (hb _)⟩
abbrev N_rack_after : List Str := ["kind", "rack", "step", "found"]
abbrev P_rack_after : List Str := ["kind", "rack", "step"]
theorem sc_rack_after : FnScope N_rack_after P_rack_after (defScope s_rack_after) := ⟨rfl, rfl, rfl, by decide +kernel, rfl, by decide +kernel, by decide +kernel⟩
theorem m_rack_after (T : Txt K mg) (hl : ∀ x, (c.args x).length = 3) (hb : ∀ (f : Addr) (cdv : Value) (A : Around) (outer : List Env) (s : Shared) (H : Hp) (E : XK), Room k (A.deeper (envOfC "rack_after" (defScope s_rack_after) s.heap.objs.size f cdv)) → ∀ (B : Base) (x : c.α), c.pre x →
    Exs (cxOf CX0 P w K mg base N_rack_after "rack_after" (defScope s_rack_after) f cdv A outer s H E).nox B (defBody s_rack_after) (env0 N_rack_after (c.args x)) ⟨fun _ => c.post x .non, c.post x, fun _ => False, fun _ => False⟩) : DefOk P w K mg base (k + 1) "rack_after" c := by
  obtain ⟨fd, F⟩ := T.c.def_ 16 (d := d_rack_after) rfl
  exact ⟨_, fd, P_rack_after, T.glo (T.c.fact 16 (f := .glo "rack_after") rfl), F.kp, F.bindsN fun _ _ _ _ _ _ us hl => match us, hl with | [_, _, _], _ => rfl, mk_def F sc_rack_after hl (by decide) (hb _)⟩
abbrev N_undone_step : List Str := ["step", "at", "k", "place"]
abbrev P_undone_step : List Str := ["step"]
theorem sc_undone_step : FnScope N_undone_step P_undone_step (defScope s_undone_step) := ⟨rfl, rfl, rfl, by decide +kernel, rfl, by decide +kernel, by decide +kernel⟩
theorem m_undone_step (T : Txt K mg) (hl : ∀ x, (c.args x).length = 1) (hb : ∀ (f : Addr) (cdv : Value) (A : Around) (outer : List Env) (s : Shared) (H : Hp) (E : XK), Room k (A.deeper (envOfC "undone_step" (defScope s_undone_step) s.heap.objs.size f cdv)) → ∀ (B : Base) (x : c.α), c.pre x →
    Exs (cxOf CX0 P w K mg base N_undone_step "undone_step" (defScope s_undone_step) f cdv A outer s H E).nox B (defBody s_undone_step) (env0 N_undone_step (c.args x)) ⟨fun _ => c.post x .non, c.post x, fun _ => False, fun _ => False⟩) : DefOk P w K mg base (k + 1) "undone_step" c := by
  obtain ⟨fd, F⟩ := T.c.def_ 17 (d := d_undone_step) rfl
  exact ⟨_, fd, P_undone_step, T.glo (T.c.fact 17 (f := .glo "undone_step") rfl), F.kp, F.bindsN fun _ _ _ _ _ _ us hl => match us, hl with | [_], _ => rfl, mk_def F sc_undone_step hl (by decide) (hb _)⟩
abbrev N_moved : List Str := ["kind", "step", "thing", "at", "row", "word", "place", "slot", "spread", "spot"]
abbrev P_moved : List Str := ["kind", "step", "thing"]
theorem sc_moved : FnScope N_moved P_moved (defScope s_moved) := ⟨rfl, rfl, rfl, by decide +kernel, rfl, by decide +kernel, by decide +kernel⟩
theorem m_moved (T : Txt K mg) (hl : ∀ x, (c.args x).length = 3) (hb : ∀ (f : Addr) (cdv : Value) (A : Around) (outer : List Env) (s : Shared) (H : Hp) (E : XK), Room k (A.deeper (envOfC "moved" (defScope s_moved) s.heap.objs.size f cdv)) → ∀ (B : Base) (x : c.α), c.pre x →
    Exs (cxOf CX0 P w K mg base N_moved "moved" (defScope s_moved) f cdv A outer s H E).nox B (defBody s_moved) (env0 N_moved (c.args x)) ⟨fun _ => c.post x .non, c.post x, fun _ => False, fun _ => False⟩) : DefOk P w K mg base (k + 1) "moved" c := by
  obtain ⟨fd, F⟩ := T.c.def_ 18 (d := d_moved) rfl
  exact ⟨_, fd, P_moved, T.glo (T.c.fact 18 (f := .glo "moved") rfl), F.kp, F.bindsN fun _ _ _ _ _ _ us hl => match us, hl with | [_, _, _], _ => rfl, mk_def F sc_moved hl (by decide) (hb _)⟩
abbrev N_led_to : List Str := ["kind", "rack", "step", "thing"]
abbrev P_led_to : List Str := ["kind", "rack", "step", "thing"]
theorem sc_led_to : FnScope N_led_to P_led_to (defScope s_led_to) := ⟨rfl, rfl, rfl, by decide +kernel, rfl, by decide +kernel, by decide +kernel⟩
theorem m_led_to (T : Txt K mg) (hl : ∀ x, (c.args x).length = 4) (hb : ∀ (f : Addr) (cdv : Value) (A : Around) (outer : List Env) (s : Shared) (H : Hp) (E : XK), Room k (A.deeper (envOfC "led_to" (defScope s_led_to) s.heap.objs.size f cdv)) → ∀ (B : Base) (x : c.α), c.pre x →
    Exs (cxOf CX0 P w K mg base N_led_to "led_to" (defScope s_led_to) f cdv A outer s H E).nox B (defBody s_led_to) (env0 N_led_to (c.args x)) ⟨fun _ => c.post x .non, c.post x, fun _ => False, fun _ => False⟩) : DefOk P w K mg base (k + 1) "led_to" c := by
  obtain ⟨fd, F⟩ := T.c.def_ 19 (d := d_led_to) rfl
  exact ⟨_, fd, P_led_to, T.glo (T.c.fact 19 (f := .glo "led_to") rfl), F.kp, F.bindsN fun _ _ _ _ _ _ us hl => match us, hl with | [_, _, _, _], _ => rfl, mk_def F sc_led_to hl (by decide) (hb _)⟩
abbrev N_is_name : List Str := ["thing", "sign"]
abbrev P_is_name : List Str := ["thing"]
theorem sc_is_name : FnScope N_is_name P_is_name (defScope s_is_name) := ⟨rfl, rfl, rfl, by decide +kernel, rfl, by decide +kernel, by decide +kernel⟩
theorem m_is_name (T : Txt K mg) (hl : ∀ x, (c.args x).length = 1) (hb : ∀ (f : Addr) (cdv : Value) (A : Around) (outer : List Env) (s : Shared) (H : Hp) (E : XK), Room k (A.deeper (envOfC "is_name" (defScope s_is_name) s.heap.objs.size f cdv)) → ∀ (B : Base) (x : c.α), c.pre x →
    Exs (cxOf CX0 P w K mg base N_is_name "is_name" (defScope s_is_name) f cdv A outer s H E).nox B (defBody s_is_name) (env0 N_is_name (c.args x)) ⟨fun _ => c.post x .non, c.post x, fun _ => False, fun _ => False⟩) : DefOk P w K mg base (k + 1) "is_name" c := by
  obtain ⟨fd, F⟩ := T.c.def_ 20 (d := d_is_name) rfl
  exact ⟨_, fd, P_is_name, T.glo (T.c.fact 20 (f := .glo "is_name") rfl), F.kp, F.bindsN fun _ _ _ _ _ _ us hl => match us, hl with | [_], _ => rfl, mk_def F sc_is_name hl (by decide) (hb _)⟩
abbrev N_is_maker_row : List Str := ["thing"]
abbrev P_is_maker_row : List Str := ["thing"]
theorem sc_is_maker_row : FnScope N_is_maker_row P_is_maker_row (defScope s_is_maker_row) := ⟨rfl, rfl, rfl, by decide +kernel, rfl, by decide +kernel, by decide +kernel⟩
theorem m_is_maker_row (T : Txt K mg) (hl : ∀ x, (c.args x).length = 1) (hb : ∀ (f : Addr) (cdv : Value) (A : Around) (outer : List Env) (s : Shared) (H : Hp) (E : XK), Room k (A.deeper (envOfC "is_maker_row" (defScope s_is_maker_row) s.heap.objs.size f cdv)) → ∀ (B : Base) (x : c.α), c.pre x →
    Exs (cxOf CX0 P w K mg base N_is_maker_row "is_maker_row" (defScope s_is_maker_row) f cdv A outer s H E).nox B (defBody s_is_maker_row) (env0 N_is_maker_row (c.args x)) ⟨fun _ => c.post x .non, c.post x, fun _ => False, fun _ => False⟩) : DefOk P w K mg base (k + 1) "is_maker_row" c := by
  obtain ⟨fd, F⟩ := T.c.def_ 21 (d := d_is_maker_row) rfl
  exact ⟨_, fd, P_is_maker_row, T.glo (T.c.fact 21 (f := .glo "is_maker_row") rfl), F.kp, F.bindsN fun _ _ _ _ _ _ us hl => match us, hl with | [_], _ => rfl, mk_def F sc_is_maker_row hl (by decide) (hb _)⟩
abbrev N_are_makers : List Str := ["thing", "row", "name", "many", "numbers"]
abbrev P_are_makers : List Str := ["thing"]
theorem sc_are_makers : FnScope N_are_makers P_are_makers (defScope s_are_makers) := ⟨rfl, rfl, rfl, by decide +kernel, rfl, by decide +kernel, by decide +kernel⟩
theorem m_are_makers (T : Txt K mg) (hl : ∀ x, (c.args x).length = 1) (hb : ∀ (f : Addr) (cdv : Value) (A : Around) (outer : List Env) (s : Shared) (H : Hp) (E : XK), Room k (A.deeper (envOfC "are_makers" (defScope s_are_makers) s.heap.objs.size f cdv)) → ∀ (B : Base) (x : c.α), c.pre x →
    Exs (cxOf CX0 P w K mg base N_are_makers "are_makers" (defScope s_are_makers) f cdv A outer s H E).nox B (defBody s_are_makers) (env0 N_are_makers (c.args x)) ⟨fun _ => c.post x .non, c.post x, fun _ => False, fun _ => False⟩) : DefOk P w K mg base (k + 1) "are_makers" c := by
  obtain ⟨fd, F⟩ := T.c.def_ 22 (d := d_are_makers) rfl
  exact ⟨_, fd, P_are_makers, T.glo (T.c.fact 22 (f := .glo "are_makers") rfl), F.kp, F.bindsN fun _ _ _ _ _ _ us hl => match us, hl with | [_], _ => rfl, mk_def F sc_are_makers hl (by decide) (hb _)⟩
abbrev N_Kind_init : List Str := ["self", "makers"]
abbrev P_Kind_init : List Str := ["self", "makers"]
theorem sc_Kind_init : FnScope N_Kind_init P_Kind_init (defScope s_Kind_init) := ⟨rfl, rfl, rfl, by decide +kernel, rfl, by decide +kernel, by decide +kernel⟩
theorem m_Kind_init (T : Txt K mg) (hl : ∀ x, (c.args x).length + 1 = 2) (hb : ∀ (f : Addr) (cdv : Value) (A : Around) (outer : List Env) (s : Shared) (H : Hp) (E : XK), Room k (A.deeper (envOfC "Kind.__init__" (defScope s_Kind_init) s.heap.objs.size f cdv)) → ∀ (B : Base) (x : c.α) (a dx : Addr), c.pre x →
    Exs (cxOf CX0 P w K mg base N_Kind_init "Kind.__init__" (defScope s_Kind_init) f cdv A outer s H E).nox B (defBody s_Kind_init) (env0 N_Kind_init (.own (.o (He.ga K "Kind") a dx []) [] :: c.args x)) ⟨fun δ' => ∃ ns xs, δ'[0]? = some (.own (.o (He.ga K "Kind") a dx ns) xs) ∧ c.post x (.ins (He.ga K "Kind") ns xs), fun _ => False, fun _ => False, fun _ => False⟩) : MakOk P w K mg base (k + 1) (He.ga K "Kind") "Kind" c := by
  obtain ⟨fd, F⟩ := T.c.def_ 23 (d := d_Kind_init) rfl
  exact ⟨_, fd, P_Kind_init, T.glo (T.c.fact 55 (f := .glo "Kind") rfl), He.mkr_ok (T.c.fact 23 (f := .mkr "Kind") rfl), F.bindsN fun _ _ _ _ _ _ us hl => match us, hl with | [_, _], _ => rfl, mk_init F sc_Kind_init hl (by decide) (hb _)⟩
abbrev N_Kind_eq : List Str := ["self", "thing"]
abbrev P_Kind_eq : List Str := ["self", "thing"]
theorem sc_Kind_eq : FnScope N_Kind_eq P_Kind_eq (defScope s_Kind_eq) := ⟨rfl, rfl, rfl, by decide +kernel, rfl, by decide +kernel, by decide +kernel⟩
theorem m_Kind_eq (T : Txt K mg) (hl : ∀ x, (c.args x).length = 2) (hb : ∀ (f : Addr) (cdv : Value) (A : Around) (outer : List Env) (s : Shared) (H : Hp) (E : XK), Room k (A.deeper (envOfC "Kind.__eq__" (defScope s_Kind_eq) s.heap.objs.size f cdv)) → ∀ (B : Base) (x : c.α), c.pre x →
    Exs (cxOf CX0 P w K mg base N_Kind_eq "Kind.__eq__" (defScope s_Kind_eq) f cdv A outer s H E).nox B (defBody s_Kind_eq) (env0 N_Kind_eq (c.args x)) ⟨fun _ => c.post x .non, c.post x, fun _ => False, fun _ => False⟩) : MetOk P w K mg base (k + 1) (He.ga K "Kind") "__eq__" c := by
  obtain ⟨fd, F⟩ := T.c.def_ 24 (d := d_Kind_eq) rfl
  exact ⟨_, fd, P_Kind_eq, He.cls_ok (T.c.fact 56 (f := .cls "Kind") rfl), He.meth_ok (T.c.fact 24 (f := .meth "Kind" "__eq__") rfl), F.bindsN fun _ _ _ _ _ _ us hl => match us, hl with | [_, _], _ => rfl, mk_def F sc_Kind_eq hl (by decide) (hb _)⟩
abbrev N_Kind_len : List Str := ["self"]
abbrev P_Kind_len : List Str := ["self"]
theorem sc_Kind_len : FnScope N_Kind_len P_Kind_len (defScope s_Kind_len) := ⟨rfl, rfl, rfl, by decide +kernel, rfl, by decide +kernel, by decide +kernel⟩
theorem m_Kind_len (T : Txt K mg) (hl : ∀ x, (c.args x).length = 1) (hb : ∀ (f : Addr) (cdv : Value) (A : Around) (outer : List Env) (s : Shared) (H : Hp) (E : XK), Room k (A.deeper (envOfC "Kind.__len__" (defScope s_Kind_len) s.heap.objs.size f cdv)) → ∀ (B : Base) (x : c.α), c.pre x →
    Exs (cxOf CX0 P w K mg base N_Kind_len "Kind.__len__" (defScope s_Kind_len) f cdv A outer s H E).nox B (defBody s_Kind_len) (env0 N_Kind_len (c.args x)) ⟨fun _ => c.post x .non, c.post x, fun _ => False, fun _ => False⟩) : MetOk P w K mg base (k + 1) (He.ga K "Kind") "__len__" c := by
  obtain ⟨fd, F⟩ := T.c.def_ 25 (d := d_Kind_len) rfl
  exact ⟨_, fd, P_Kind_len, He.cls_ok (T.c.fact 56 (f := .cls "Kind") rfl), He.meth_ok (T.c.fact 25 (f := .meth "Kind" "__len__") rfl), F.bindsN fun _ _ _ _ _ _ us hl => match us, hl with | [_], _ => rfl, mk_def F sc_Kind_len hl (by decide) (hb _)⟩
abbrev N_Kind_sure_maker : List Str := ["self", "maker"]
abbrev P_Kind_sure_maker : List Str := ["self", "maker"]
theorem sc_Kind_sure_maker : FnScope N_Kind_sure_maker P_Kind_sure_maker (defScope s_Kind_sure_maker) := ⟨rfl, rfl, rfl, by decide +kernel, rfl, by decide +kernel, by decide +kernel⟩
theorem m_Kind_sure_maker (T : Txt K mg) (hl : ∀ x, (c.args x).length = 2) (hb : ∀ (f : Addr) (cdv : Value) (A : Around) (outer : List Env) (s : Shared) (H : Hp) (E : XK), Room k (A.deeper (envOfC "Kind.sure_maker" (defScope s_Kind_sure_maker) s.heap.objs.size f cdv)) → ∀ (B : Base) (x : c.α), c.pre x →
    Exs (cxOf CX0 P w K mg base N_Kind_sure_maker "Kind.sure_maker" (defScope s_Kind_sure_maker) f cdv A outer s H E).nox B (defBody s_Kind_sure_maker) (env0 N_Kind_sure_maker (c.args x)) ⟨fun _ => c.post x .non, c.post x, fun _ => False, fun _ => False⟩) : MetOk P w K mg base (k + 1) (He.ga K "Kind") "sure_maker" c := by
  obtain ⟨fd, F⟩ := T.c.def_ 26 (d := d_Kind_sure_maker) rfl
  exact ⟨_, fd, P_Kind_sure_maker, He.cls_ok (T.c.fact 56 (f := .cls "Kind") rfl), He.meth_ok (T.c.fact 26 (f := .meth "Kind" "sure_maker") rfl), F.bindsN fun _ _ _ _ _ _ us hl => match us, hl with | [_, _], _ => rfl, mk_def F sc_Kind_sure_maker hl (by decide) (hb _)⟩
abbrev N_Kind_within : List Str := ["self", "maker"]
abbrev P_Kind_within : List Str := ["self", "maker"]
theorem sc_Kind_within : FnScope N_Kind_within P_Kind_within (defScope s_Kind_within) := ⟨rfl, rfl, rfl, by decide +kernel, rfl, by decide +kernel, by decide +kernel⟩
theorem m_Kind_within (T : Txt K mg) (hl : ∀ x, (c.args x).length = 2) (hb : ∀ (f : Addr) (cdv : Value) (A : Around) (outer : List Env) (s : Shared) (H : Hp) (E : XK), Room k (A.deeper (envOfC "Kind.within" (defScope s_Kind_within) s.heap.objs.size f cdv)) → ∀ (B : Base) (x : c.α), c.pre x →
    Exs (cxOf CX0 P w K mg base N_Kind_within "Kind.within" (defScope s_Kind_within) f cdv A outer s H E).nox B (defBody s_Kind_within) (env0 N_Kind_within (c.args x)) ⟨fun _ => c.post x .non, c.post x, fun _ => False, fun _ => False⟩) : MetOk P w K mg base (k + 1) (He.ga K "Kind") "within" c := by
  obtain ⟨fd, F⟩ := T.c.def_ 27 (d := d_Kind_within) rfl
  exact ⟨_, fd, P_Kind_within, He.cls_ok (T.c.fact 56 (f := .cls "Kind") rfl), He.meth_ok (T.c.fact 27 (f := .meth "Kind" "within") rfl), F.bindsN fun _ _ _ _ _ _ us hl => match us, hl with | [_, _], _ => rfl, mk_def F sc_Kind_within hl (by decide) (hb _)⟩
abbrev N_racks_on : List Str := ["kind", "rack", "steps", "found", "k", "step"]
abbrev P_racks_on : List Str := ["kind", "rack", "steps"]
theorem sc_racks_on : FnScope N_racks_on P_racks_on (defScope s_racks_on) := ⟨rfl, rfl, rfl, by decide +kernel, rfl, by decide +kernel, by decide +kernel⟩
theorem m_racks_on (T : Txt K mg) (hl : ∀ x, (c.args x).length = 3) (hb : ∀ (f : Addr) (cdv : Value) (A : Around) (outer : List Env) (s : Shared) (H : Hp) (E : XK), Room k (A.deeper (envOfC "racks_on" (defScope s_racks_on) s.heap.objs.size f cdv)) → ∀ (B : Base) (x : c.α), c.pre x →
    Exs (cxOf CX0 P w K mg base N_racks_on "racks_on" (defScope s_racks_on) f cdv A outer s H E).nox B (defBody s_racks_on) (env0 N_racks_on (c.args x)) ⟨fun _ => c.post x .non, c.post x, fun _ => False, fun _ => False⟩) : DefOk P w K mg base (k + 1) "racks_on" c := by
  obtain ⟨fd, F⟩ := T.c.def_ 28 (d := d_racks_on) rfl
  exact ⟨_, fd, P_racks_on, T.glo (T.c.fact 28 (f := .glo "racks_on") rfl), F.kp, F.bindsN fun _ _ _ _ _ _ us hl => match us, hl with | [_, _, _], _ => rfl, mk_def F sc_racks_on hl (by decide) (hb _)⟩
abbrev N_Turning_init : List Str := ["self", "kind", "rack", "steps"]
abbrev P_Turning_init : List Str := ["self", "kind", "rack", "steps"]
theorem sc_Turning_init : FnScope N_Turning_init P_Turning_init (defScope s_Turning_init) := ⟨rfl, rfl, rfl, by decide +kernel, rfl, by decide +kernel, by decide +kernel⟩
theorem m_Turning_init (T : Txt K mg) (hl : ∀ x, (c.args x).length + 1 = 4) (hb : ∀ (f : Addr) (cdv : Value) (A : Around) (outer : List Env) (s : Shared) (H : Hp) (E : XK), Room k (A.deeper (envOfC "Turning.__init__" (defScope s_Turning_init) s.heap.objs.size f cdv)) → ∀ (B : Base) (x : c.α) (a dx : Addr), c.pre x →
    Exs (cxOf CX0 P w K mg base N_Turning_init "Turning.__init__" (defScope s_Turning_init) f cdv A outer s H E).nox B (defBody s_Turning_init) (env0 N_Turning_init (.own (.o (He.ga K "Turning") a dx []) [] :: c.args x)) ⟨fun δ' => ∃ ns xs, δ'[0]? = some (.own (.o (He.ga K "Turning") a dx ns) xs) ∧ c.post x (.ins (He.ga K "Turning") ns xs), fun _ => False, fun _ => False, fun _ => False⟩) : MakOk P w K mg base (k + 1) (He.ga K "Turning") "Turning" c := by
  obtain ⟨fd, F⟩ := T.c.def_ 29 (d := d_Turning_init) rfl
  exact ⟨_, fd, P_Turning_init, T.glo (T.c.fact 58 (f := .glo "Turning") rfl), He.mkr_ok (T.c.fact 29 (f := .mkr "Turning") rfl), F.bindsN fun _ _ _ _ _ _ us hl => match us, hl with | [_, _, _, _], _ => rfl, mk_init F sc_Turning_init hl (by decide) (hb _)⟩
abbrev N_Turning_steps : List Str := ["self"]
abbrev P_Turning_steps : List Str := ["self"]
theorem sc_Turning_steps : FnScope N_Turning_steps P_Turning_steps (defScope s_Turning_steps) := ⟨rfl, rfl, rfl, by decide +kernel, rfl, by decide +kernel, by decide +kernel⟩
theorem m_Turning_steps (T : Txt K mg) (hl : ∀ x, (c.args x).length = 1) (hb : ∀ (f : Addr) (cdv : Value) (A : Around) (outer : List Env) (s : Shared) (H : Hp) (E : XK), Room k (A.deeper (envOfC "Turning.steps" (defScope s_Turning_steps) s.heap.objs.size f cdv)) → ∀ (B : Base) (x : c.α), c.pre x →
    Exs (cxOf CX0 P w K mg base N_Turning_steps "Turning.steps" (defScope s_Turning_steps) f cdv A outer s H E).nox B (defBody s_Turning_steps) (env0 N_Turning_steps (c.args x)) ⟨fun _ => c.post x .non, c.post x, fun _ => False, fun _ => False⟩) : MetOk P w K mg base (k + 1) (He.ga K "Turning") "steps" c := by
  obtain ⟨fd, F⟩ := T.c.def_ 30 (d := d_Turning_steps) rfl
  exact ⟨_, fd, P_Turning_steps, He.cls_ok (T.c.fact 59 (f := .cls "Turning") rfl), He.meth_ok (T.c.fact 30 (f := .meth "Turning" "steps") rfl), F.bindsN fun _ _ _ _ _ _ us hl => match us, hl with | [_], _ => rfl, mk_def F sc_Turning_steps hl (by decide) (hb _)⟩
abbrev N_Turning_racks : List Str := ["self"]
abbrev P_Turning_racks : List Str := ["self"]
theorem sc_Turning_racks : FnScope N_Turning_racks P_Turning_racks (defScope s_Turning_racks) := ⟨rfl, rfl, rfl, by decide +kernel, rfl, by decide +kernel, by decide +kernel⟩
theorem m_Turning_racks (T : Txt K mg) (hl : ∀ x, (c.args x).length = 1) (hb : ∀ (f : Addr) (cdv : Value) (A : Around) (outer : List Env) (s : Shared) (H : Hp) (E : XK), Room k (A.deeper (envOfC "Turning.racks" (defScope s_Turning_racks) s.heap.objs.size f cdv)) → ∀ (B : Base) (x : c.α), c.pre x →
    Exs (cxOf CX0 P w K mg base N_Turning_racks "Turning.racks" (defScope s_Turning_racks) f cdv A outer s H E).nox B (defBody s_Turning_racks) (env0 N_Turning_racks (c.args x)) ⟨fun _ => c.post x .non, c.post x, fun _ => False, fun _ => False⟩) : MetOk P w K mg base (k + 1) (He.ga K "Turning") "racks" c := by
  obtain ⟨fd, F⟩ := T.c.def_ 31 (d := d_Turning_racks) rfl
  exact ⟨_, fd, P_Turning_racks, He.cls_ok (T.c.fact 59 (f := .cls "Turning") rfl), He.meth_ok (T.c.fact 31 (f := .meth "Turning" "racks") rfl), F.bindsN fun _ _ _ _ _ _ us hl => match us, hl with | [_], _ => rfl, mk_def F sc_Turning_racks hl (by decide) (hb _)⟩
abbrev N_Turning_run : List Str := ["self", "thing", "step"]
abbrev P_Turning_run : List Str := ["self", "thing"]
theorem sc_Turning_run : FnScope N_Turning_run P_Turning_run (defScope s_Turning_run) := ⟨rfl, rfl, rfl, by decide +kernel, rfl, by decide +kernel, by decide +kernel⟩
theorem m_Turning_run (T : Txt K mg) (hl : ∀ x, (c.args x).length = 2) (hb : ∀ (f : Addr) (cdv : Value) (A : Around) (outer : List Env) (s : Shared) (H : Hp) (E : XK), Room k (A.deeper (envOfC "Turning.run" (defScope s_Turning_run) s.heap.objs.size f cdv)) → ∀ (B : Base) (x : c.α), c.pre x →
    Exs (cxOf CX0 P w K mg base N_Turning_run "Turning.run" (defScope s_Turning_run) f cdv A outer s H E).nox B (defBody s_Turning_run) (env0 N_Turning_run (c.args x)) ⟨fun _ => c.post x .non, c.post x, fun _ => False, fun _ => False⟩) : MetOk P w K mg base (k + 1) (He.ga K "Turning") "run" c := by
  obtain ⟨fd, F⟩ := T.c.def_ 32 (d := d_Turning_run) rfl
  exact ⟨_, fd, P_Turning_run, He.cls_ok (T.c.fact 59 (f := .cls "Turning") rfl), He.meth_ok (T.c.fact 32 (f := .meth "Turning" "run") rfl), F.bindsN fun _ _ _ _ _ _ us hl => match us, hl with | [_, _], _ => rfl, mk_def F sc_Turning_run hl (by decide) (hb _)⟩
abbrev N_Turning_back : List Str := ["self", "thing", "step"]
abbrev P_Turning_back : List Str := ["self", "thing"]
theorem sc_Turning_back : FnScope N_Turning_back P_Turning_back (defScope s_Turning_back) := ⟨rfl, rfl, rfl, by decide +kernel, rfl, by decide +kernel, by decide +kernel⟩
theorem m_Turning_back (T : Txt K mg) (hl : ∀ x, (c.args x).length = 2) (hb : ∀ (f : Addr) (cdv : Value) (A : Around) (outer : List Env) (s : Shared) (H : Hp) (E : XK), Room k (A.deeper (envOfC "Turning.back" (defScope s_Turning_back) s.heap.objs.size f cdv)) → ∀ (B : Base) (x : c.α), c.pre x →
    Exs (cxOf CX0 P w K mg base N_Turning_back "Turning.back" (defScope s_Turning_back) f cdv A outer s H E).nox B (defBody s_Turning_back) (env0 N_Turning_back (c.args x)) ⟨fun _ => c.post x .non, c.post x, fun _ => False, fun _ => False⟩) : MetOk P w K mg base (k + 1) (He.ga K "Turning") "back" c := by
  obtain ⟨fd, F⟩ := T.c.def_ 33 (d := d_Turning_back) rfl
  exact ⟨_, fd, P_Turning_back, He.cls_ok (T.c.fact 59 (f := .cls "Turning") rfl), He.meth_ok (T.c.fact 33 (f := .meth "Turning" "back") rfl), F.bindsN fun _ _ _ _ _ _ us hl => match us, hl with | [_, _], _ => rfl, mk_def F sc_Turning_back hl (by decide) (hb _)⟩
abbrev N_Turning_turned : List Str := ["self", "step"]
abbrev P_Turning_turned : List Str := ["self"]
theorem sc_Turning_turned : FnScope N_Turning_turned P_Turning_turned (defScope s_Turning_turned) := ⟨rfl, rfl, rfl, by decide +kernel, rfl, by decide +kernel, by decide +kernel⟩
theorem m_Turning_turned (T : Txt K mg) (hl : ∀ x, (c.args x).length = 1) (hb : ∀ (f : Addr) (cdv : Value) (A : Around) (outer : List Env) (s : Shared) (H : Hp) (E : XK), Room k (A.deeper (envOfC "Turning.turned" (defScope s_Turning_turned) s.heap.objs.size f cdv)) → ∀ (B : Base) (x : c.α), c.pre x →
    Exs (cxOf CX0 P w K mg base N_Turning_turned "Turning.turned" (defScope s_Turning_turned) f cdv A outer s H E).nox B (defBody s_Turning_turned) (env0 N_Turning_turned (c.args x)) ⟨fun _ => c.post x .non, c.post x, fun _ => False, fun _ => False⟩) : MetOk P w K mg base (k + 1) (He.ga K "Turning") "turned" c := by
  obtain ⟨fd, F⟩ := T.c.def_ 34 (d := d_Turning_turned) rfl
  exact ⟨_, fd, P_Turning_turned, He.cls_ok (T.c.fact 59 (f := .cls "Turning") rfl), He.meth_ok (T.c.fact 34 (f := .meth "Turning" "turned") rfl), F.bindsN fun _ _ _ _ _ _ us hl => match us, hl with | [_], _ => rfl, mk_def F sc_Turning_turned hl (by decide) (hb _)⟩
abbrev N_join : List Str := ["one", "two"]
abbrev P_join : List Str := ["one", "two"]
theorem sc_join : FnScope N_join P_join (defScope s_join) := ⟨rfl, rfl, rfl, by decide +kernel, rfl, by decide +kernel, by decide +kernel⟩
theorem m_join (T : Txt K mg) (hl : ∀ x, (c.args x).length = 2) (hb : ∀ (f : Addr) (cdv : Value) (A : Around) (outer : List Env) (s : Shared) (H : Hp) (E : XK), Room k (A.deeper (envOfC "join" (defScope s_join) s.heap.objs.size f cdv)) → ∀ (B : Base) (x : c.α), c.pre x →
    Exs (cxOf CX0 P w K mg base N_join "join" (defScope s_join) f cdv A outer s H E).nox B (defBody s_join) (env0 N_join (c.args x)) ⟨fun _ => c.post x .non, c.post x, fun _ => False, fun _ => False⟩) : DefOk P w K mg base (k + 1) "join" c := by
  obtain ⟨fd, F⟩ := T.c.def_ 35 (d := d_join) rfl
  exact ⟨_, fd, P_join, T.glo (T.c.fact 35 (f := .glo "join") rfl), F.kp, F.bindsN fun _ _ _ _ _ _ us hl => match us, hl with | [_, _], _ => rfl, mk_def F sc_join hl (by decide) (hb _)⟩
abbrev N_asked_rows : List Str := ["rows"]
abbrev P_asked_rows : List Str := ["rows"]
theorem sc_asked_rows : FnScope N_asked_rows P_asked_rows (defScope s_asked_rows) := ⟨rfl, rfl, rfl, by decide +kernel, rfl, by decide +kernel, by decide +kernel⟩
theorem m_asked_rows (T : Txt K mg) (hl : ∀ x, (c.args x).length = 1) (hb : ∀ (f : Addr) (cdv : Value) (A : Around) (outer : List Env) (s : Shared) (H : Hp) (E : XK), Room k (A.deeper (envOfC "asked_rows" (defScope s_asked_rows) s.heap.objs.size f cdv)) → ∀ (B : Base) (x : c.α), c.pre x →
    Exs (cxOf CX0 P w K mg base N_asked_rows "asked_rows" (defScope s_asked_rows) f cdv A outer s H E).nox B (defBody s_asked_rows) (env0 N_asked_rows (c.args x)) ⟨fun _ => c.post x .non, c.post x, fun _ => False, fun _ => False⟩) : DefOk P w K mg base (k + 1) "asked_rows" c := by
  obtain ⟨fd, F⟩ := T.c.def_ 36 (d := d_asked_rows) rfl
  exact ⟨_, fd, P_asked_rows, T.glo (T.c.fact 36 (f := .glo "asked_rows") rfl), F.kp, F.bindsN fun _ _ _ _ _ _ us hl => match us, hl with | [_], _ => rfl, mk_def F sc_asked_rows hl (by decide) (hb _)⟩
abbrev N_grown_at : List Str := ["pattern", "number", "more", "place", "row", "at", "k"]
abbrev P_grown_at : List Str := ["pattern", "number", "more"]
theorem sc_grown_at : FnScope N_grown_at P_grown_at (defScope s_grown_at) := ⟨rfl, rfl, rfl, by decide +kernel, rfl, by decide +kernel, by decide +kernel⟩
theorem m_grown_at (T : Txt K mg) (hl : ∀ x, (c.args x).length = 3) (hb : ∀ (f : Addr) (cdv : Value) (A : Around) (outer : List Env) (s : Shared) (H : Hp) (E : XK), Room k (A.deeper (envOfC "grown_at" (defScope s_grown_at) s.heap.objs.size f cdv)) → ∀ (B : Base) (x : c.α), c.pre x →
    Exs (cxOf CX0 P w K mg base N_grown_at "grown_at" (defScope s_grown_at) f cdv A outer s H E).nox B (defBody s_grown_at) (env0 N_grown_at (c.args x)) ⟨fun _ => c.post x .non, c.post x, fun _ => False, fun _ => False⟩) : DefOk P w K mg base (k + 1) "grown_at" c := by
  obtain ⟨fd, F⟩ := T.c.def_ 37 (d := d_grown_at) rfl
  exact ⟨_, fd, P_grown_at, T.glo (T.c.fact 37 (f := .glo "grown_at") rfl), F.kp, F.bindsN fun _ _ _ _ _ _ us hl => match us, hl with | [_, _, _], _ => rfl, mk_def F sc_grown_at hl (by decide) (hb _)⟩
abbrev N_hole_opened : List Str := ["kind", "step", "pattern", "row", "at"]
abbrev P_hole_opened : List Str := ["kind", "step", "pattern"]
theorem sc_hole_opened : FnScope N_hole_opened P_hole_opened (defScope s_hole_opened) := ⟨rfl, rfl, rfl, by decide +kernel, rfl, by decide +kernel, by decide +kernel⟩
theorem m_hole_opened (T : Txt K mg) (hl : ∀ x, (c.args x).length = 3) (hb : ∀ (f : Addr) (cdv : Value) (A : Around) (outer : List Env) (s : Shared) (H : Hp) (E : XK), Room k (A.deeper (envOfC "hole_opened" (defScope s_hole_opened) s.heap.objs.size f cdv)) → ∀ (B : Base) (x : c.α), c.pre x →
    Exs (cxOf CX0 P w K mg base N_hole_opened "hole_opened" (defScope s_hole_opened) f cdv A outer s H E).nox B (defBody s_hole_opened) (env0 N_hole_opened (c.args x)) ⟨fun _ => c.post x .non, c.post x, fun _ => False, fun _ => False⟩) : DefOk P w K mg base (k + 1) "hole_opened" c := by
  obtain ⟨fd, F⟩ := T.c.def_ 38 (d := d_hole_opened) rfl
  exact ⟨_, fd, P_hole_opened, T.glo (T.c.fact 38 (f := .glo "hole_opened") rfl), F.kp, F.bindsN fun _ _ _ _ _ _ us hl => match us, hl with | [_, _, _], _ => rfl, mk_def F sc_hole_opened hl (by decide) (hb _)⟩
abbrev N_parted_rows : List Str := ["kind", "step", "first", "second", "number", "found", "maker", "more"]
abbrev P_parted_rows : List Str := ["kind", "step", "first", "second"]
theorem sc_parted_rows : FnScope N_parted_rows P_parted_rows (defScope s_parted_rows) := ⟨rfl, rfl, rfl, by decide +kernel, rfl, by decide +kernel, by decide +kernel⟩
theorem m_parted_rows (T : Txt K mg) (hl : ∀ x, (c.args x).length = 4) (hb : ∀ (f : Addr) (cdv : Value) (A : Around) (outer : List Env) (s : Shared) (H : Hp) (E : XK), Room k (A.deeper (envOfC "parted_rows" (defScope s_parted_rows) s.heap.objs.size f cdv)) → ∀ (B : Base) (x : c.α), c.pre x →
    Exs (cxOf CX0 P w K mg base N_parted_rows "parted_rows" (defScope s_parted_rows) f cdv A outer s H E).nox B (defBody s_parted_rows) (env0 N_parted_rows (c.args x)) ⟨fun _ => c.post x .non, c.post x, fun _ => False, fun _ => False⟩) : DefOk P w K mg base (k + 1) "parted_rows" c := by
  obtain ⟨fd, F⟩ := T.c.def_ 39 (d := d_parted_rows) rfl
  exact ⟨_, fd, P_parted_rows, T.glo (T.c.fact 39 (f := .glo "parted_rows") rfl), F.kp, F.bindsN fun _ _ _ _ _ _ us hl => match us, hl with | [_, _, _, _], _ => rfl, mk_def F sc_parted_rows hl (by decide) (hb _)⟩
abbrev N_rows_behind : List Str := ["kind", "step", "rows", "found", "first", "second", "ahead", "behind"]
abbrev P_rows_behind : List Str := ["kind", "step", "rows"]
theorem sc_rows_behind : FnScope N_rows_behind P_rows_behind (defScope s_rows_behind) := ⟨rfl, rfl, rfl, by decide +kernel, rfl, by decide +kernel, by decide +kernel⟩
theorem m_rows_behind (T : Txt K mg) (hl : ∀ x, (c.args x).length = 3) (hb : ∀ (f : Addr) (cdv : Value) (A : Around) (outer : List Env) (s : Shared) (H : Hp) (E : XK), Room k (A.deeper (envOfC "rows_behind" (defScope s_rows_behind) s.heap.objs.size f cdv)) → ∀ (B : Base) (x : c.α), c.pre x →
    Exs (cxOf CX0 P w K mg base N_rows_behind "rows_behind" (defScope s_rows_behind) f cdv A outer s H E).nox B (defBody s_rows_behind) (env0 N_rows_behind (c.args x)) ⟨fun _ => c.post x .non, c.post x, fun _ => False, fun _ => False⟩) : DefOk P w K mg base (k + 1) "rows_behind" c := by
  obtain ⟨fd, F⟩ := T.c.def_ 40 (d := d_rows_behind) rfl
  exact ⟨_, fd, P_rows_behind, T.glo (T.c.fact 40 (f := .glo "rows_behind") rfl), F.kp, F.bindsN fun _ _ _ _ _ _ us hl => match us, hl with | [_, _, _], _ => rfl, mk_def F sc_rows_behind hl (by decide) (hb _)⟩
abbrev N_table_of : List Str := ["turning", "rows", "place", "many", "plain", "step"]
abbrev P_table_of : List Str := ["turning"]
theorem sc_table_of : FnScope N_table_of P_table_of (defScope s_table_of) := ⟨rfl, rfl, rfl, by decide +kernel, rfl, by decide +kernel, by decide +kernel⟩
theorem m_table_of (T : Txt K mg) (hl : ∀ x, (c.args x).length = 1) (hb : ∀ (f : Addr) (cdv : Value) (A : Around) (outer : List Env) (s : Shared) (H : Hp) (E : XK), Room k (A.deeper (envOfC "table_of" (defScope s_table_of) s.heap.objs.size f cdv)) → ∀ (B : Base) (x : c.α), c.pre x →
    Exs (cxOf CX0 P w K mg base N_table_of "table_of" (defScope s_table_of) f cdv A outer s H E).nox B (defBody s_table_of) (env0 N_table_of (c.args x)) ⟨fun _ => c.post x .non, c.post x, fun _ => False, fun _ => False⟩) : DefOk P w K mg base (k + 1) "table_of" c := by
  obtain ⟨fd, F⟩ := T.c.def_ 41 (d := d_table_of) rfl
  exact ⟨_, fd, P_table_of, T.glo (T.c.fact 41 (f := .glo "table_of") rfl), F.kp, F.bindsN fun _ _ _ _ _ _ us hl => match us, hl with | [_], _ => rfl, mk_def F sc_table_of hl (by decide) (hb _)⟩
abbrev N_parting_rows : List Str := ["one", "two", "first", "second"]
abbrev P_parting_rows : List Str := ["one", "two"]
theorem sc_parting_rows : FnScope N_parting_rows P_parting_rows (defScope s_parting_rows) := ⟨rfl, rfl, rfl, by decide +kernel, rfl, by decide +kernel, by decide +kernel⟩
theorem m_parting_rows (T : Txt K mg) (hl : ∀ x, (c.args x).length = 2) (hb : ∀ (f : Addr) (cdv : Value) (A : Around) (outer : List Env) (s : Shared) (H : Hp) (E : XK), Room k (A.deeper (envOfC "parting_rows" (defScope s_parting_rows) s.heap.objs.size f cdv)) → ∀ (B : Base) (x : c.α), c.pre x →
    Exs (cxOf CX0 P w K mg base N_parting_rows "parting_rows" (defScope s_parting_rows) f cdv A outer s H E).nox B (defBody s_parting_rows) (env0 N_parting_rows (c.args x)) ⟨fun _ => c.post x .non, c.post x, fun _ => False, fun _ => False⟩) : DefOk P w K mg base (k + 1) "parting_rows" c := by
  obtain ⟨fd, F⟩ := T.c.def_ 42 (d := d_parting_rows) rfl
  exact ⟨_, fd, P_parting_rows, T.glo (T.c.fact 42 (f := .glo "parting_rows") rfl), F.kp, F.bindsN fun _ _ _ _ _ _ us hl => match us, hl with | [_, _], _ => rfl, mk_def F sc_parting_rows hl (by decide) (hb _)⟩
abbrev N_are_same : List Str := ["one", "two"]
abbrev P_are_same : List Str := ["one", "two"]
theorem sc_are_same : FnScope N_are_same P_are_same (defScope s_are_same) := ⟨rfl, rfl, rfl, by decide +kernel, rfl, by decide +kernel, by decide +kernel⟩
theorem m_are_same (T : Txt K mg) (hl : ∀ x, (c.args x).length = 2) (hb : ∀ (f : Addr) (cdv : Value) (A : Around) (outer : List Env) (s : Shared) (H : Hp) (E : XK), Room k (A.deeper (envOfC "are_same" (defScope s_are_same) s.heap.objs.size f cdv)) → ∀ (B : Base) (x : c.α), c.pre x →
    Exs (cxOf CX0 P w K mg base N_are_same "are_same" (defScope s_are_same) f cdv A outer s H E).nox B (defBody s_are_same) (env0 N_are_same (c.args x)) ⟨fun _ => c.post x .non, c.post x, fun _ => False, fun _ => False⟩) : DefOk P w K mg base (k + 1) "are_same" c := by
  obtain ⟨fd, F⟩ := T.c.def_ 43 (d := d_are_same) rfl
  exact ⟨_, fd, P_are_same, T.glo (T.c.fact 43 (f := .glo "are_same") rfl), F.kp, F.bindsN fun _ _ _ _ _ _ us hl => match us, hl with | [_, _], _ => rfl, mk_def F sc_are_same hl (by decide) (hb _)⟩
abbrev N__law_well : List Str := ["_law_cell"]
abbrev P__law_well : List Str := ["_law_cell"]
theorem sc__law_well : FnScope N__law_well P__law_well (defScope s__law_well) := ⟨rfl, rfl, rfl, by decide +kernel, rfl, by decide +kernel, by decide +kernel⟩
theorem m__law_well (T : Txt K mg) (hl : ∀ x, (c.args x).length = 1) (hb : ∀ (f : Addr) (cdv : Value) (A : Around) (outer : List Env) (s : Shared) (H : Hp) (E : XK), Room k (A.deeper (envOfC "_law_well" (defScope s__law_well) s.heap.objs.size f cdv)) → ∀ (B : Base) (x : c.α), c.pre x →
    Exs (cxOf CX0 P w K mg base N__law_well "_law_well" (defScope s__law_well) f cdv A outer s H E).nox B (defBody s__law_well) (env0 N__law_well (c.args x)) ⟨fun _ => c.post x .non, c.post x, fun _ => False, fun _ => False⟩) : DefOk P w K mg base (k + 1) "_law_well" c := by
  obtain ⟨fd, F⟩ := T.c.def_ 44 (d := d__law_well) rfl
  exact ⟨_, fd, P__law_well, T.glo (T.c.fact 44 (f := .glo "_law_well") rfl), F.kp, F.bindsN fun _ _ _ _ _ _ us hl => match us, hl with | [_], _ => rfl, mk_def F sc__law_well hl (by decide) (hb _)⟩
abbrev N__law_draw : List Str := ["_law_well_here", "_law_many", "_law_digit", "_law_one"]
abbrev P__law_draw : List Str := ["_law_well_here", "_law_many"]
theorem sc__law_draw : FnScope N__law_draw P__law_draw (defScope s__law_draw) := ⟨rfl, rfl, rfl, by decide +kernel, rfl, by decide +kernel, by decide +kernel⟩
theorem m__law_draw (T : Txt K mg) (hl : ∀ x, (c.args x).length = 2) (hb : ∀ (f : Addr) (cdv : Value) (A : Around) (outer : List Env) (s : Shared) (H : Hp) (E : XK), Room k (A.deeper (envOfC "_law_draw" (defScope s__law_draw) s.heap.objs.size f cdv)) → ∀ (B : Base) (x : c.α), c.pre x →
    Exs (cxOf CX0 P w K mg base N__law_draw "_law_draw" (defScope s__law_draw) f cdv A outer s H E).nox B (defBody s__law_draw) (env0 N__law_draw (c.args x)) ⟨fun _ => c.post x .non, c.post x, fun _ => False, fun _ => False⟩) : DefOk P w K mg base (k + 1) "_law_draw" c := by
  obtain ⟨fd, F⟩ := T.c.def_ 45 (d := d__law_draw) rfl
  exact ⟨_, fd, P__law_draw, T.glo (T.c.fact 45 (f := .glo "_law_draw") rfl), F.kp, F.bindsN fun _ _ _ _ _ _ us hl => match us, hl with | [_, _], _ => rfl, mk_def F sc__law_draw hl (by decide) (hb _)⟩
abbrev N__law_within : List Str := ["_law_well_here", "_law_found", "_law_many", "_law_k"]
abbrev P__law_within : List Str := ["_law_well_here"]
theorem sc__law_within : FnScope N__law_within P__law_within (defScope s__law_within) := ⟨rfl, rfl, rfl, by decide +kernel, rfl, by decide +kernel, by decide +kernel⟩
theorem m__law_within (T : Txt K mg) (hl : ∀ x, (c.args x).length = 1) (hb : ∀ (f : Addr) (cdv : Value) (A : Around) (outer : List Env) (s : Shared) (H : Hp) (E : XK), Room k (A.deeper (envOfC "_law_within" (defScope s__law_within) s.heap.objs.size f cdv)) → ∀ (B : Base) (x : c.α), c.pre x →
    Exs (cxOf CX0 P w K mg base N__law_within "_law_within" (defScope s__law_within) f cdv A outer s H E).nox B (defBody s__law_within) (env0 N__law_within (c.args x)) ⟨fun _ => c.post x .non, c.post x, fun _ => False, fun _ => False⟩) : DefOk P w K mg base (k + 1) "_law_within" c := by
  obtain ⟨fd, F⟩ := T.c.def_ 46 (d := d__law_within) rfl
  exact ⟨_, fd, P__law_within, T.glo (T.c.fact 46 (f := .glo "_law_within") rfl), F.kp, F.bindsN fun _ _ _ _ _ _ us hl => match us, hl with | [_], _ => rfl, mk_def F sc__law_within hl (by decide) (hb _)⟩
abbrev N__law_house : List Str := ["_law_within_here", "_law_k", "_law_many"]
abbrev P__law_house : List Str := ["_law_within_here"]
theorem sc__law_house : FnScope N__law_house P__law_house (defScope s__law_house) := ⟨rfl, rfl, rfl, by decide +kernel, rfl, by decide +kernel, by decide +kernel⟩
theorem m__law_house (T : Txt K mg) (hl : ∀ x, (c.args x).length = 1) (hb : ∀ (f : Addr) (cdv : Value) (A : Around) (outer : List Env) (s : Shared) (H : Hp) (E : XK), Room k (A.deeper (envOfC "_law_house" (defScope s__law_house) s.heap.objs.size f cdv)) → ∀ (B : Base) (x : c.α), c.pre x →
    Exs (cxOf CX0 P w K mg base N__law_house "_law_house" (defScope s__law_house) f cdv A outer s H E).nox B (defBody s__law_house) (env0 N__law_house (c.args x)) ⟨fun _ => c.post x .non, c.post x, fun _ => False, fun _ => False⟩) : DefOk P w K mg base (k + 1) "_law_house" c := by
  obtain ⟨fd, F⟩ := T.c.def_ 47 (d := d__law_house) rfl
  exact ⟨_, fd, P__law_house, T.glo (T.c.fact 47 (f := .glo "_law_house") rfl), F.kp, F.bindsN fun _ _ _ _ _ _ us hl => match us, hl with | [_], _ => rfl, mk_def F sc__law_house hl (by decide) (hb _)⟩
abbrev N__law_row : List Str := ["_law_well_here", "_law_within_here", "_law_many", "_law_row_here", "_law_wanted", "_law_maker"]
abbrev P__law_row : List Str := ["_law_well_here", "_law_within_here", "_law_many"]
theorem sc__law_row : FnScope N__law_row P__law_row (defScope s__law_row) := ⟨rfl, rfl, rfl, by decide +kernel, rfl, by decide +kernel, by decide +kernel⟩
theorem m__law_row (T : Txt K mg) (hl : ∀ x, (c.args x).length = 3) (hb : ∀ (f : Addr) (cdv : Value) (A : Around) (outer : List Env) (s : Shared) (H : Hp) (E : XK), Room k (A.deeper (envOfC "_law_row" (defScope s__law_row) s.heap.objs.size f cdv)) → ∀ (B : Base) (x : c.α), c.pre x →
    Exs (cxOf CX0 P w K mg base N__law_row "_law_row" (defScope s__law_row) f cdv A outer s H E).nox B (defBody s__law_row) (env0 N__law_row (c.args x)) ⟨fun _ => c.post x .non, c.post x, fun _ => False, fun _ => False⟩) : DefOk P w K mg base (k + 1) "_law_row" c := by
  obtain ⟨fd, F⟩ := T.c.def_ 48 (d := d__law_row) rfl
  exact ⟨_, fd, P__law_row, T.glo (T.c.fact 48 (f := .glo "_law_row") rfl), F.kp, F.bindsN fun _ _ _ _ _ _ us hl => match us, hl with | [_, _, _], _ => rfl, mk_def F sc__law_row hl (by decide) (hb _)⟩
abbrev N__law_first_way : List Str := ["_law_within_here", "_law_place", "_law_low", "_law_high", "_law_found", "_law_maker"]
abbrev P__law_first_way : List Str := ["_law_within_here", "_law_place", "_law_low", "_law_high"]
theorem sc__law_first_way : FnScope N__law_first_way P__law_first_way (defScope s__law_first_way) := ⟨rfl, rfl, rfl, by decide +kernel, rfl, by decide +kernel, by decide +kernel⟩
theorem m__law_first_way (T : Txt K mg) (hl : ∀ x, (c.args x).length = 4) (hb : ∀ (f : Addr) (cdv : Value) (A : Around) (outer : List Env) (s : Shared) (H : Hp) (E : XK), Room k (A.deeper (envOfC "_law_first_way" (defScope s__law_first_way) s.heap.objs.size f cdv)) → ∀ (B : Base) (x : c.α), c.pre x →
    Exs (cxOf CX0 P w K mg base N__law_first_way "_law_first_way" (defScope s__law_first_way) f cdv A outer s H E).nox B (defBody s__law_first_way) (env0 N__law_first_way (c.args x)) ⟨fun _ => c.post x .non, c.post x, fun _ => False, fun _ => False⟩) : DefOk P w K mg base (k + 1) "_law_first_way" c := by
  obtain ⟨fd, F⟩ := T.c.def_ 49 (d := d__law_first_way) rfl
  exact ⟨_, fd, P__law_first_way, T.glo (T.c.fact 49 (f := .glo "_law_first_way") rfl), F.kp, F.bindsN fun _ _ _ _ _ _ us hl => match us, hl with | [_, _, _, _], _ => rfl, mk_def F sc__law_first_way hl (by decide) (hb _)⟩
abbrev N__law_second_way : List Str := ["_law_within_here", "_law_size", "_law_place", "_law_low", "_law_high", "_law_many", "_law_found", "_law_maker", "_law_places", "_law_other"]
abbrev P__law_second_way : List Str := ["_law_within_here", "_law_size", "_law_place", "_law_low", "_law_high"]
theorem sc__law_second_way : FnScope N__law_second_way P__law_second_way (defScope s__law_second_way) := ⟨rfl, rfl, rfl, by decide +kernel, rfl, by decide +kernel, by decide +kernel⟩
theorem m__law_second_way (T : Txt K mg) (hl : ∀ x, (c.args x).length = 5) (hb : ∀ (f : Addr) (cdv : Value) (A : Around) (outer : List Env) (s : Shared) (H : Hp) (E : XK), Room k (A.deeper (envOfC "_law_second_way" (defScope s__law_second_way) s.heap.objs.size f cdv)) → ∀ (B : Base) (x : c.α), c.pre x →
    Exs (cxOf CX0 P w K mg base N__law_second_way "_law_second_way" (defScope s__law_second_way) f cdv A outer s H E).nox B (defBody s__law_second_way) (env0 N__law_second_way (c.args x)) ⟨fun _ => c.post x .non, c.post x, fun _ => False, fun _ => False⟩) : DefOk P w K mg base (k + 1) "_law_second_way" c := by
  obtain ⟨fd, F⟩ := T.c.def_ 50 (d := d__law_second_way) rfl
  exact ⟨_, fd, P__law_second_way, T.glo (T.c.fact 50 (f := .glo "_law_second_way") rfl), F.kp, F.bindsN fun _ _ _ _ _ _ us hl => match us, hl with | [_, _, _, _, _], _ => rfl, mk_def F sc__law_second_way hl (by decide) (hb _)⟩
abbrev N__law_two_forms : List Str := ["_law_within_here", "_law_rack", "_law_place", "_law_low", "_law_other", "_law_slot", "_law_more", "_law_first"]
abbrev P__law_two_forms : List Str := ["_law_within_here", "_law_rack", "_law_place", "_law_low", "_law_other", "_law_slot"]
theorem sc__law_two_forms : FnScope N__law_two_forms P__law_two_forms (defScope s__law_two_forms) := ⟨rfl, rfl, rfl, by decide +kernel, rfl, by decide +kernel, by decide +kernel⟩
theorem m__law_two_forms (T : Txt K mg) (hl : ∀ x, (c.args x).length = 6) (hb : ∀ (f : Addr) (cdv : Value) (A : Around) (outer : List Env) (s : Shared) (H : Hp) (E : XK), Room k (A.deeper (envOfC "_law_two_forms" (defScope s__law_two_forms) s.heap.objs.size f cdv)) → ∀ (B : Base) (x : c.α), c.pre x →
    Exs (cxOf CX0 P w K mg base N__law_two_forms "_law_two_forms" (defScope s__law_two_forms) f cdv A outer s H E).nox B (defBody s__law_two_forms) (env0 N__law_two_forms (c.args x)) ⟨fun _ => c.post x .non, c.post x, fun _ => False, fun _ => False⟩) : DefOk P w K mg base (k + 1) "_law_two_forms" c := by
  obtain ⟨fd, F⟩ := T.c.def_ 51 (d := d__law_two_forms) rfl
  exact ⟨_, fd, P__law_two_forms, T.glo (T.c.fact 51 (f := .glo "_law_two_forms") rfl), F.kp, F.bindsN fun _ _ _ _ _ _ us hl => match us, hl with | [_, _, _, _, _, _], _ => rfl, mk_def F sc__law_two_forms hl (by decide) (hb _)⟩
abbrev N__law_walked : List Str := ["_law_house_here", "_law_rack", "_law_steps", "_law_item", "_law_step"]
abbrev P__law_walked : List Str := ["_law_house_here", "_law_rack", "_law_steps", "_law_item"]
theorem sc__law_walked : FnScope N__law_walked P__law_walked (defScope s__law_walked) := ⟨rfl, rfl, rfl, by decide +kernel, rfl, by decide +kernel, by decide +kernel⟩
theorem m__law_walked (T : Txt K mg) (hl : ∀ x, (c.args x).length = 4) (hb : ∀ (f : Addr) (cdv : Value) (A : Around) (outer : List Env) (s : Shared) (H : Hp) (E : XK), Room k (A.deeper (envOfC "_law_walked" (defScope s__law_walked) s.heap.objs.size f cdv)) → ∀ (B : Base) (x : c.α), c.pre x →
    Exs (cxOf CX0 P w K mg base N__law_walked "_law_walked" (defScope s__law_walked) f cdv A outer s H E).nox B (defBody s__law_walked) (env0 N__law_walked (c.args x)) ⟨fun _ => c.post x .non, c.post x, fun _ => False, fun _ => False⟩) : DefOk P w K mg base (k + 1) "_law_walked" c := by
  obtain ⟨fd, F⟩ := T.c.def_ 52 (d := d__law_walked) rfl
  exact ⟨_, fd, P__law_walked, T.glo (T.c.fact 52 (f := .glo "_law_walked") rfl), F.kp, F.bindsN fun _ _ _ _ _ _ us hl => match us, hl with | [_, _, _, _], _ => rfl, mk_def F sc__law_walked hl (by decide) (hb _)⟩
abbrev N__law_alike : List Str := ["_law_house_here", "_law_rack", "_law_ways", "_law_items", "_law_item", "_law_ends", "_law_steps", "_law_roads"]
abbrev P__law_alike : List Str := ["_law_house_here", "_law_rack", "_law_ways", "_law_items"]
theorem sc__law_alike : FnScope N__law_alike P__law_alike (defScope s__law_alike) := ⟨rfl, rfl, rfl, by decide +kernel, rfl, by decide +kernel, by decide +kernel⟩
theorem m__law_alike (T : Txt K mg) (hl : ∀ x, (c.args x).length = 4) (hb : ∀ (f : Addr) (cdv : Value) (A : Around) (outer : List Env) (s : Shared) (H : Hp) (E : XK), Room k (A.deeper (envOfC "_law_alike" (defScope s__law_alike) s.heap.objs.size f cdv)) → ∀ (B : Base) (x : c.α), c.pre x →
    Exs (cxOf CX0 P w K mg base N__law_alike "_law_alike" (defScope s__law_alike) f cdv A outer s H E).nox B (defBody s__law_alike) (env0 N__law_alike (c.args x)) ⟨fun _ => c.post x .non, c.post x, fun _ => False, fun _ => False⟩) : DefOk P w K mg base (k + 1) "_law_alike" c := by
  obtain ⟨fd, F⟩ := T.c.def_ 53 (d := d__law_alike) rfl
  exact ⟨_, fd, P__law_alike, T.glo (T.c.fact 53 (f := .glo "_law_alike") rfl), F.kp, F.bindsN fun _ _ _ _ _ _ us hl => match us, hl with | [_, _, _, _], _ => rfl, mk_def F sc__law_alike hl (by decide) (hb _)⟩
abbrev N_law : List Str := ["_law_script", "_law_cell", "_law_well_here", "_law_within_here", "_law_house_here", "_law_rack", "_law_k", "_law_place", "_law_many", "_law_low", "_law_high", "_law_items", "_law_at", "_law_ways", "_law_item", "_law_others", "_law_trees", "_law_other"]
abbrev P_law : List Str := ["_law_script"]
theorem sc_law : FnScope N_law P_law (defScope s_law) := ⟨rfl, rfl, rfl, by decide +kernel, rfl, by decide +kernel, by decide +kernel⟩
theorem m_law (T : Txt K mg) (hl : ∀ x, (c.args x).length = 1) (hb : ∀ (f : Addr) (cdv : Value) (A : Around) (outer : List Env) (s : Shared) (H : Hp) (E : XK), Room k (A.deeper (envOfC "law" (defScope s_law) s.heap.objs.size f cdv)) → ∀ (B : Base) (x : c.α), c.pre x →
    Exs (cxOf CX0 P w K mg base N_law "law" (defScope s_law) f cdv A outer s H E).nox B (defBody s_law) (env0 N_law (c.args x)) ⟨fun _ => c.post x .non, c.post x, fun _ => False, fun _ => False⟩) : DefOk P w K mg base (k + 1) "law" c := by
  obtain ⟨fd, F⟩ := T.c.def_ 54 (d := d_law) rfl
  exact ⟨_, fd, P_law, T.glo (T.c.fact 54 (f := .glo "law") rfl), F.kp, F.bindsN fun _ _ _ _ _ _ us hl => match us, hl with | [_], _ => rfl, mk_def F sc_law hl (by decide) (hb _)⟩
theorem Txt.gKind (T : Txt K mg) : mg "Kind" = some (.ref (CK K)) := T.glo (T.c.fact 55 (f := .glo "Kind") rfl)
theorem Txt.cKind (T : Txt K mg) : Cls K (CK K) := He.cls_ok (T.c.fact 56 (f := .cls "Kind") rfl)
theorem Txt.cTurning (T : Txt K mg) : Cls K (CT K) := He.cls_ok (T.c.fact 59 (f := .cls "Turning") rfl)
theorem Txt.naKind (T : Txt K mg) : NoAttr K (CK K) "rows" := He.noat_ok (T.c.fact 61 (f := .noat "Kind" "rows") rfl)
theorem Txt.na_kind (T : Txt K mg) : NoAttr K (CT K) "kind" := He.noat_ok (T.c.fact 62 (f := .noat "Turning" "kind") rfl)
theorem Txt.na_passed (T : Txt K mg) : NoAttr K (CT K) "passed" := He.noat_ok (T.c.fact 63 (f := .noat "Turning" "passed") rfl)
theorem Txt.na_done (T : Txt K mg) : NoAttr K (CT K) "done" := He.noat_ok (T.c.fact 64 (f := .noat "Turning" "done") rfl)
theorem Txt.na_begin (T : Txt K mg) : NoAttr K (CT K) "begin" := He.noat_ok (T.c.fact 65 (f := .noat "Turning" "begin") rfl)
theorem Txt.na_end (T : Txt K mg) : NoAttr K (CT K) "end" := He.noat_ok (T.c.fact 66 (f := .noat "Turning" "end") rfl)
theorem Txt.i_MOST_FORMS (T : Txt K mg) : ∃ t, mg "MOST_FORMS" = some (.int (4000) t) := T.int (T.c.fact 67 (f := .int "MOST_FORMS" (4000)) rfl)
theorem Txt.i_MOST_TREES (T : Txt K mg) : ∃ t, mg "MOST_TREES" = some (.int (200) t) := T.int (T.c.fact 68 (f := .int "MOST_TREES" (200)) rfl)
theorem Txt.i_HOLE (T : Txt K mg) : ∃ t, mg "HOLE" = some (.int (-1) t) := T.int (T.c.fact 69 (f := .int "HOLE" (-1)) rfl)
theorem Txt.i_MOST_LETTERS (T : Txt K mg) : ∃ t, mg "MOST_LETTERS" = some (.int (8) t) := T.int (T.c.fact 70 (f := .int "MOST_LETTERS" (8)) rfl)
theorem Txt.i_MOST_MAKERS (T : Txt K mg) : ∃ t, mg "MOST_MAKERS" = some (.int (5) t) := T.int (T.c.fact 71 (f := .int "MOST_MAKERS" (5)) rfl)
theorem Txt.i_MOST_WITHIN (T : Txt K mg) : ∃ t, mg "MOST_WITHIN" = some (.int (4) t) := T.int (T.c.fact 72 (f := .int "MOST_WITHIN" (4)) rfl)
theorem Txt.i_MOST_ROWS (T : Txt K mg) : ∃ t, mg "MOST_ROWS" = some (.int (400) t) := T.int (T.c.fact 73 (f := .int "MOST_ROWS" (400)) rfl)
theorem Txt.i_LETTERS (T : Txt K mg) : ∃ t, mg "LETTERS" = some (.str "abcdefghijklmnopqrstuvwxyz" t) := T.str (T.c.fact 74 (f := .str "LETTERS" "abcdefghijklmnopqrstuvwxyz") rfl)
theorem Txt.f_isinstance (T : Txt K mg) : mg "isinstance" = none := T.free (T.c.fact 75 (f := .free "isinstance") rfl)
theorem Txt.f_int (T : Txt K mg) : mg "int" = none := T.free (T.c.fact 76 (f := .free "int") rfl)
theorem Txt.f_bool (T : Txt K mg) : mg "bool" = none := T.free (T.c.fact 77 (f := .free "bool") rfl)
theorem Txt.f_tuple (T : Txt K mg) : mg "tuple" = none := T.free (T.c.fact 78 (f := .free "tuple") rfl)
theorem Txt.f_list (T : Txt K mg) : mg "list" = none := T.free (T.c.fact 79 (f := .free "list") rfl)
theorem Txt.f_str (T : Txt K mg) : mg "str" = none := T.free (T.c.fact 80 (f := .free "str") rfl)
theorem Txt.f_enumerate (T : Txt K mg) : mg "enumerate" = none := T.free (T.c.fact 81 (f := .free "enumerate") rfl)
theorem Txt.f_max (T : Txt K mg) : mg "max" = none := T.free (T.c.fact 82 (f := .free "max") rfl)
theorem Txt.f_len (T : Txt K mg) : mg "len" = none := T.free (T.c.fact 83 (f := .free "len") rfl)
theorem Txt.f_zip (T : Txt K mg) : mg "zip" = none := T.free (T.c.fact 84 (f := .free "zip") rfl)
theorem Txt.f_all (T : Txt K mg) : mg "all" = none := T.free (T.c.fact 85 (f := .free "all") rfl)
theorem Txt.f_range (T : Txt K mg) : mg "range" = none := T.free (T.c.fact 86 (f := .free "range") rfl)
theorem Txt.f_dict (T : Txt K mg) : mg "dict" = none := T.free (T.c.fact 87 (f := .free "dict") rfl)
theorem Txt.f_set (T : Txt K mg) : mg "set" = none := T.free (T.c.fact 88 (f := .free "set") rfl)
theorem Txt.f_reversed (T : Txt K mg) : mg "reversed" = none := T.free (T.c.fact 89 (f := .free "reversed") rfl)
theorem Txt.f_divmod (T : Txt K mg) : mg "divmod" = none := T.free (T.c.fact 90 (f := .free "divmod") rfl)
theorem Txt.ci (T : Txt K mg) : ClsI K (CK K) ∧ PySem.W.findIn K (.ref (CK K)) "__ne__" = some (some (.builtin "object.__ne__")) := by
  have h := T.x
  unfold exB at h
  simp only [Bool.and_eq_true, decide_eq_true_eq] at h
  obtain ⟨h1, h2, h3, h4, h5, h6⟩ := h
  exact ⟨⟨T.cKind, h1, h2, h3, h4, h5⟩, h6⟩
end
end BA

set_option maxHeartbeats 4000000
namespace BA
open PySem PySem.Spec PyProof.Rows L2
section
variable {A B : Prop} {k : Bool} {p : Prop} [Decidable p] {T : Bool → Prop}
theorem is_i (h : T k) : Is T (.bl k) := h
theorem is_t (h : A) : Is (fun k => if k = true then A else B) (.bl true) := h
theorem is_f (h : B) : Is (fun k => if k = true then A else B) (.bl false) := h
theorem is_nt (h : B) : Is (fun k => if (!k) = true then A else B) (.bl true) := h
theorem is_nf (h : A) : Is (fun k => if (!k) = true then A else B) (.bl false) := h
theorem is_k (h1 : k = true → A) (h2 : k = false → B) : Is (fun k => if k = true then A else B) (.bl k) := by
  cases k
  · exact h2 rfl
  · exact h1 rfl
theorem is_nk (h1 : k = false → A) (h2 : k = true → B) : Is (fun k => if (!k) = true then A else B) (.bl k) := by
  cases k
  · exact h1 rfl
  · exact h2 rfl
theorem is_d (h1 : p → A) (h2 : ¬ p → B) : Is (fun k => if k = true then A else B) (.bl (decide p)) := is_k (fun e => h1 (of_decide_eq_true e)) fun e => h2 (of_decide_eq_false e)
theorem is_nd (h1 : ¬ p → A) (h2 : p → B) : Is (fun k => if k = true then A else B) (.bl (!decide p)) := by
  by_cases q : p
  · rw [decide_eq_true q]; exact h2 q
  · rw [decide_eq_false q]; exact h1 q
theorem is_dt (q : p) (h : A) : Is (fun k => if k = true then A else B) (.bl (decide p)) := by rw [decide_eq_true q]; exact h
theorem is_df (q : ¬ p) (h : B) : Is (fun k => if k = true then A else B) (.bl (decide p)) := by rw [decide_eq_false q]; exact h
theorem is_ndt (q : p) (h : B) : Is (fun k => if (!k) = true then A else B) (.bl (decide p)) := by rw [decide_eq_true q]; exact h
theorem is_nddt (q : p) (h : B) : Is (fun k => if k = true then A else B) (.bl (!decide p)) := by rw [decide_eq_true q]; exact h
theorem is_nddf (q : ¬ p) (h : A) : Is (fun k => if k = true then A else B) (.bl (!decide p)) := by rw [decide_eq_false q]; exact h
theorem below {m n : Nat} (h : m < n) : 0 ≤ ((m : Nat) : Int) ∧ ((m : Nat) : Int) ≤ ((n : Nat) : Int) - 1 := ⟨by omega, by omega⟩
theorem t_t (h : A) : if true = true then A else B := h
theorem t_f (h : B) : if false = true then A else B := h
end
end BA

set_option maxHeartbeats 4000000
namespace BA
open PySem PySem.Spec PyProof.Rows L2
section
variable {P : Program} {w : World} {K : PySem.W.Frag} {mg : Str → Option Value} {base : Heap}
abbrev cWhole : Con := ⟨Int × Int, fun x => [.dat (.int x.1), .dat (.int 0), .dat (.int x.2)], fun _ => True, fun x d => d = .bl (decide (0 ≤ x.1 ∧ x.1 ≤ x.2))⟩
theorem ok_is_whole (T : Txt K mg) : DefOk P w K mg base 1 "is_whole" cWhole := by
  refine m_is_whole T (fun _ => rfl) fun f cdv A outer s H E hr B x _ => ?_
  refine exs_cons (ex_if (et_w (ew_or (et_not (et_ev (by intro _; rfl) (ev_isi (k := true) (t := "int") (T := "int") T.f_isinstance T.f_int (by decide +kernel) (by decide +kernel) (ev_var 0 rfl ⟨rfl, is_nt ?_⟩)))))))
  refine ew_or1 (et_ev (by intro _; rfl) (ev_isi (k := false) (t := "int") (T := "bool") T.f_isinstance T.f_bool (by decide +kernel) (by decide +kernel) (ev_var 0 rfl ⟨rfl, is_f ?_⟩)))
  refine exs_nil ?_
  refine exs_cons (ex_if (et_w (ew_and (et_cmp (by decide +kernel) (ev_var 1 rfl (ev_non (bo_notN (is_t ?_))))))))
  refine ew_and1 (et_cmp (by decide +kernel) (ev_var 0 rfl (ev_var 1 rfl (bo_lt (is_d (fun h0 => ?_) fun h0 => ?_)))))
  · refine exs_cons (ex_ret (ev_bl ?_))
    show D.bl false = _
    rw [decide_eq_false (by omega)]
  · refine exs_nil (exs_cons (ex_ret (ev_or (ev_cmp (by decide +kernel) (ev_var 2 rfl (ev_non (bo_isN (is_f ?_))))))))
    refine ev_one (ev_cmp (by decide +kernel) (ev_var 0 rfl (ev_var 2 rfl (bo_le ?_))))
    show D.bl _ = D.bl _
    congr 1
    exact decide_eq_decide.mpr ⟨fun h => ⟨by omega, h⟩, fun h => h.2⟩
end
end BA

set_option maxHeartbeats 4000000
namespace BA
open PySem PySem.Spec PyProof.Rows L2
theorem Ea.run {X : Cx} {B : Base} {es : List Expr} {δ : List Ent} {R : List Ent → Prop} {S H : Hp} {σ : L2.St} {Q : List V → Hp → Prop} (ok : Ok X.K B S H σ δ) (q : ∀ vs as S' H', R as → Grow (WL σ δ) S H S' H' → Args (WL σ δ) S' H' as vs → Q vs H') (h : Ea X B es δ R) : UA X es σ H Q := h S H σ ok Q q
/-! the well of draws -/
section
variable {X : Cx} {B : Base} {δ : List Ent} {R : D → Prop} {e : Expr} {es : List Expr} {pos p1 p2 : Pos} {p : Post} {k : Nat}
/-- what may stand at a place of the well -/
def Wn (c n : Int) : Prop := (c = 0 → 0 ≤ n) ∧ (c = 1 → 0 ≤ n ∧ n < 2147483647)
def W3 (c : Int) : Prop := c = 0 ∨ c = 1 ∨ c = 2
theorem ev_wellIx (i : Nat) {x : Str} {c : Int} {j} (hd : δ[i]? = some .well) (hc : W3 c) (h : ∀ n, Wn c n → R (.int n)) (hN : X.N[i]? = some x := by rfl)
    (hv : Vis X.env.scope x := by first | exact Or.inl rfl | exact Or.inr (Or.inl rfl) | exact Or.inr (Or.inr rfl)) (h1 : (x == ("__debug__" : Str)) = false := by decide) (h2 : (x == ("__classdict__" : Str)) = false := by decide)
    (hs : PlainIx (.Constant (.int c) j p2) := by intro _ _; rfl) : Ev X B (.Subscript (.Name x p1) (.Constant (.int c) j p2) pos) δ R := fun S H σ ok Q q => by
  obtain ⟨v, e, a, rfl, s0, A, Bn, C, ha, h3, h4, h5⟩ := ok.ent i _ hd
  have fin : ∀ n : Int, atI [V.int A, .int Bn, .int C] c = some (.int n) → Wn c n → (tOp (rIxL X.K) (tVar i) (tC (.int c))) σ H Q := fun n e1 w =>
    ⟨.ref a, e, a, [.int A, .int Bn, .int C], c, .int n, rfl, rfl, SqL.of ha, e1, q _ (.int n) S H (h n w) ok.refl rfl⟩
  refine ⟨_, pe_ix ix_list (pe_var (i := i) hN hv h1 h2) pe_int hs, ?_⟩
  rcases hc with rfl | rfl | rfl
  · exact fin A rfl ⟨fun _ => h3, fun z => by omega⟩
  · exact fin Bn rfl ⟨fun z => by omega, fun _ => ⟨h4, h5⟩⟩
  · exact fin C rfl ⟨fun z => by omega, fun z => by omega⟩
theorem Ok.setWell {K : PySem.W.Frag} {S H : Hp} {σ : L2.St} (ok : Ok K B S H σ δ) {a : Addr} {A Bn C : Int} (wl : WL σ δ a) (h3 : 0 ≤ A) (h4 : 0 ≤ Bn) (h5 : Bn < 2147483647) : Grow (WL σ δ) S H S (upd H a (.lst [.int A, .int Bn, .int C])) := by
  obtain ⟨s0, _⟩ := ok.well wl
  refine ⟨Ext.refl S, fun b u z => ?_, fun b _ z => z, fun b u z nw => ?_, fun b w z => ?_, fun b z => ?_⟩
  · have q : b ≠ a := fun y => by rw [y, s0] at z; cases z
    rw [upd_ne q]; exact ok.sh _ _ z
  · have q : b ≠ a := fun y => nw (y ▸ wl)
    rw [upd_ne q]; exact z
  · by_cases q : b = a
    · subst q; exact ⟨A, Bn, C, upd_same, h3, h4, h5⟩
    · obtain ⟨x, y, t, e, r⟩ := z
      exact ⟨x, y, t, by rw [upd_ne q]; exact e, r⟩
  · by_cases q : b = a
    · subst q; rw [upd_same]; exact fun z => nomatch z
    · rw [upd_ne q]; exact z
/-- well[c] = n -/
theorem eg_wellSet (i : Nat) {x : Str} {c n : Int} {j} {N : List Ent → Prop} (hd : δ[i]? = some .well) (hc : W3 c) (hw : Wn c n) (h : N δ) (hN : X.N[i]? = some x := by rfl)
    (hv : Vis X.env.scope x := by first | exact Or.inl rfl | exact Or.inr (Or.inl rfl) | exact Or.inr (Or.inr rfl)) (h1 : (x == ("__debug__" : Str)) = false := by decide) (h2 : (x == ("__classdict__" : Str)) = false := by decide)
    (ha : ∀ v, assign (.Subscript (.Name x p1) (.Constant (.int c) j p2) pos) X.env v = (do
      let ov ← holding [v] (eval (.Name x p1) X.env)
      let iv ← holding [v, ov] (eval (.Constant (.int c) j p2) X.env)
      standAt pos
      holding [v, ov, iv] (setItem ov iv v)
      release [v, ov, iv] []) := by intro _; rfl) : Eg X B (.Subscript (.Name x p1) (.Constant (.int c) j p2) pos) (.int n) δ N := fun S H σ v ok r Q q => by
  obtain rfl : v = .int n := r
  obtain ⟨v, e, a, rfl, s0, A, Bn, C, hA, h3, h4, h5⟩ := ok.ent i _ hd
  have wl : WL σ δ a := ⟨i, hd, e⟩
  have fin : ∀ (m : Nat) (A' B' C' : Int), ixN 3 c = some m → ([V.int A, .int Bn, .int C].set m (.int n)) = [V.int A', .int B', .int C'] → 0 ≤ A' → 0 ≤ B' → B' < 2147483647 → gSub (tVar i) (tC (.int c)) rSetL (.int n) σ H Q := fun m A' B' C' e1 e2 k1 k2 k3 =>
    ⟨.ref a, e, a, _, c, m, rfl, rfl, hA, e1, by rw [e2]; exact q σ S _ δ h (Ext.refl S) (ok.grow (ok.setWell wl k1 k2 k3))⟩
  refine ⟨_, pg_sub (pe_var (i := i) hN hv h1 h2) pe_int set_list ha, ?_⟩
  rcases hc with rfl | rfl | rfl
  · exact fin 0 n Bn C rfl rfl (hw.1 rfl) h4 h5
  · exact fin 1 A n C rfl rfl h3 (hw.2 rfl).1 (hw.2 rfl).2
  · exact fin 2 A Bn n rfl rfl h3 h4 h5
theorem bc_divmod {i j : Int} (h0 : 0 < j) (h1 : j < 1073741824) (h : R (.tpw [.int (i / j), .int (i % j)])) : Bc X B (.builtin "divmod") [.dat (.int i), .dat (.int j)] δ R := fun S H σ vs ok ⟨v, r, e1, e2, w, r2, e3, e4, e5⟩ Q q => by
  obtain rfl : r2 = [] := e5
  subst e3 e1
  obtain rfl : v = .int i := e2
  obtain rfl : w = .int j := e4
  refine ⟨_, call_divmod, i, j, rfl, ⟨h0, h1⟩, fun p np => ?_⟩
  have gn := ok.gnew (o := .tup [.int (i / j), .int (i % j)]) np
  exact q _ _ _ _ h gn ⟨p, _, rfl, upd_same, _, _, rfl, rfl, _, _, rfl, rfl, rfl⟩
theorem Ok.putWell {K : PySem.W.Frag} {S H : Hp} {σ : L2.St} (ok : Ok K B S H σ δ) {i : Nat} {a : Addr} {A Bn C : Int} (hn : H a = none) (h3 : 0 ≤ A) (h4 : 0 ≤ Bn) (h5 : Bn < 2147483647) :
    Ok K B S (upd H a (.lst [.int A, .int Bn, .int C])) (σ.set i (some (.ref a))) (δ.set i .well) := by
  have s0 := ok.snone hn
  have n0 : B.H0 a = none := by
    cases e : B.H0 a with
    | none => rfl
    | some u => exact absurd hn (ok.base.up a (by rw [e]; exact fun z => nomatch z))
  have keep : ∀ b o, H b = some o → upd H a (.lst [.int A, .int Bn, .int C]) b = some o := fun b o e => by rw [upd_ne (ne_of_none e hn)]; exact e
  refine ⟨by rw [List.length_set, List.length_set, ok.len], fun j e q => ?_, fun j k kd2 ys e b ne q1 q2 pr q3 q4 => ?_, fun b o q => keep b o (ok.sh _ _ q), fun j kd2 ys b q1 q2 => ?_, fun b1 w => ?_, ?_⟩
  · by_cases z : i = j
    · subst z
      rw [List.getElem?_set] at q
      simp only [if_pos] at q
      split at q
      · rename_i lt
        cases q
        exact ⟨some (.ref a), by rw [List.getElem?_set_self (by rw [ok.len]; exact lt)], a, rfl, s0, A, Bn, C, upd_same, h3, h4, h5⟩
      · cases q
    · rw [List.getElem?_set_ne z] at q ⊢
      obtain ⟨v, hv, r⟩ := ok.ent j e q
      refine ⟨v, hv, ?_⟩
      cases e with
      | dat d => exact r
      | own kd2 ys =>
        obtain ⟨b, us, e1, s0, h0, r⟩ := r
        exact ⟨b, us, e1, s0, keep _ _ h0, r⟩
      | well =>
        obtain ⟨b, e1, s0, x, y, w, e2, r⟩ := r
        exact ⟨b, e1, s0, x, y, w, keep _ _ e2, r⟩
      | unb => exact True.intro
      | scr ns => exact r
  · by_cases z : i = j
    · subst z
      rw [List.getElem?_set] at q1
      simp only [if_pos] at q1
      split at q1 <;> cases q1
    · rw [List.getElem?_set_ne z] at q1 q3
      by_cases z2 : i = k
      · subst z2
        rw [List.getElem?_set] at q4
        simp only [if_pos] at q4
        split at q4
        · cases q4
          obtain ⟨b2, us, o⟩ := ok.ownAt q1
          have e2 : b2 = a := by have e3 := o.sl; rw [q3] at e3; cases e3; rfl
          have e3 := o.h0
          rw [e2, hn] at e3
          cases e3
        · cases q4
      · rw [List.getElem?_set_ne z2] at q2 q4
        exact ok.sep j k kd2 ys e b ne q1 q2 pr q3 q4
  · by_cases z : i = j
    · subst z
      rw [List.getElem?_set] at q1
      simp only [if_pos] at q1
      split at q1 <;> cases q1
    · rw [List.getElem?_set_ne z] at q1 q2
      exact ok.new j kd2 ys b q1 q2
  · obtain ⟨j, w1, w2⟩ := w
    by_cases z : i = j
    · subst z
      rw [List.getElem?_set] at w2
      simp only [if_pos] at w2
      split at w2
      · cases w2; exact .inr n0
      · cases w2
    · rw [List.getElem?_set_ne z] at w1 w2
      exact ok.neww b1 ⟨j, w1, w2⟩
  · refine ⟨ok.base.ss, fun b o q => keep b o (ok.sh _ _ q), ok.base.fr, fun b o q w => keep b o (ok.base.kp b o q w), fun b w q => ?_, fun b q => ?_⟩
    · obtain ⟨x, y, z, e, r⟩ := ok.base.wk b w q
      exact ⟨x, y, z, keep _ _ e, r⟩
    · have nb : b ≠ a := fun z => q (z ▸ n0)
      rw [upd_ne nb]
      exact ok.base.up b q
/-- a call that lays a new well -/
def spWell : Sp := fun vs H Q _ => ∃ (S : Hp) (W : Addr → Prop) (n : Int), Ext S H ∧ (∀ a, W a → S a = none ∧ Well H a) ∧ vs = [.int n] ∧
  ∀ S' H' a A B C, Grow W S H S' H' → H' a = none → 0 ≤ A → 0 ≤ B → B < 2147483647 → Q (.ref a) (upd H' a (.lst [.int A, .int B, .int C]))
def WellOk (P : Program) (w : World) (K : PySem.W.Frag) (mg : Str → Option Value) (base : Heap) (k : Nat) (x : Str) : Prop :=
  ∃ (f : Addr) (fd : FuncData) (ps : List Str), mg x = some (.ref f) ∧ PySem.W.keepIn K (.ref f) = true ∧ Binds K fd ps [] ∧ FnOk P w K mg base CX0 k f fd ps spWell
theorem ex_well (i : Nat) {x y : Str} {py pc : Pos} (F : WellOk X.prog X.w X.K X.mg X.base k x) (hr : Room k X.A) (hN : X.N.Nodup) (h : Ev X B e δ fun d => ∃ n, d = .int n ∧ p.n (δ.set i .well)) (hg : Gl X x := by rfl) (hdb : (x == ("__debug__" : Str)) = false := by decide)
    (he : starEach [e] X.env = (false, eval e X.env) :: starEach [] X.env := by rfl) (hpl : (backTo pc (starEach [] X.env)).any (·.1) = false := by rfl)
    (hi : X.N[i]? = some y := by rfl) (hx : Loc X.env.scope y := by first | exact .inl rfl | exact .inr rfl) (hs : swapsWith (.Call (.Name x p1) [e] [] pc) (some (.Name y py)) pos.line X.env = pure false := by rfl)
    (hf : X.fn y = true ∨ X.env.scope.names.lookup y = some .local := by first | exact .inl rfl | exact .inr rfl | assumption) : Ex X B (.Assign [.Name y py] (.Call (.Name x p1) [e] [] pc) pos) δ p := fun S H σ ok E m => by
  obtain ⟨f, fd, ps, hm, hk, hb, FO⟩ := F
  refine ⟨_, ps_set (i := i) hN hi hx (pe_call FO hr hg hm hk hb .nil pass0 (pa_cons (pe_u e) pa_nil he) hdb he hpl) hs hf, h S H σ ok _ fun v d S1 H1 ⟨n, e1, z⟩ g1 r1 => ?_⟩
  subst e1
  obtain rfl : v = .int n := r1
  have ok1 := ok.grow g1
  refine ⟨S1, WL σ δ, n, ok1.sh, fun a w => ok1.well w, rfl, fun S' H' a A Bn C g ha h3 h4 h5 => ?_⟩
  have ok2 := ok1.grow g
  exact m.n _ _ _ _ (g1.ss.trans g.ss) (ok2.putWell ha h3 h4 h5) z
end
section
variable {P : Program} {w : World} {K : PySem.W.Frag} {mg : Str → Option Value} {base : Heap}
theorem ok__law_well (T : Txt K mg) : WellOk P w K mg base 1 "_law_well" := by
  obtain ⟨fd, F⟩ := T.c.def_ 44 (d := d__law_well) rfl
  refine ⟨_, fd, P__law_well, T.glo (T.c.fact 44 (f := .glo "_law_well") rfl), F.kp, F.bindsN fun _ _ _ _ _ _ us hl => match us, hl with | [_], _ => rfl, ?_⟩
  refine F.ok sc__law_well (fun vs H Q E h => ?_) fun cdv A outer s H vs Q E hr h => ?_
  · obtain ⟨_, _, _, _, _, rfl, _⟩ := h
    rfl
  · obtain ⟨S, W, n, sh, hw, rfl, q⟩ := h
    have ok := ok_start (K := K) (N := N__law_well) (es := [.dat (.int n)]) (vs := [.int n]) (W := W) sh ⟨_, _, rfl, rfl, rfl⟩ (by show 1 ≤ 1; decide)
    refine ⟨_, PSs.nox (pss_one (ps_ret (pe_lst (pa_u _)))), ?_⟩
    refine Ea.run (R := Dats fun ds => ∃ A Bn C : Int, ds = [.int A, .int Bn, .int C] ∧ 0 ≤ A ∧ 0 ≤ Bn ∧ Bn < 2147483647) ok (fun vs as S1 H1 ⟨ds, e1, A1, B1, C1, e2, h3, h4, h5⟩ g1 r1 => ?_) ?_
    rotate_left
    · refine ea_cons (ev_bin (ev_var 0 rfl (ev_callTy T.f_int (by decide +kernel) (ea_cons (ev_cmp (by decide +kernel) (ev_var 0 rfl (ev_bin (ev_int (ev_int (bo_pow ⟨by decide, by decide, by decide⟩ (bo_ge (ea_nil (bc_intB ?_)))))))))))))
      refine bo_mul (.inr ?_) (ea_cons (ev_bin (ev_var 0 rfl (ev_int (bo_mod (by decide) (ea_cons (ev_int (ea_nil (dats3 ⟨_, _, _, rfl, ?_, ?_, ?_⟩)))))))))
      · split <;> decide
      · split
        · rename_i h0
          have h1 : (10 : Int) ^ (18 : Int).toNat ≤ n := of_decide_eq_true h0
          have h2 : (10 : Int) ^ (18 : Int).toNat = 1000000000000000000 := by decide
          omega
        · omega
      · exact Int.emod_nonneg _ (by decide)
      · exact Int.emod_lt_of_pos _ (by decide)
    · subst e1 e2
      obtain ⟨x1, _, rfl, z1, x2, _, rfl, z2, x3, _, rfl, z3, rfl⟩ := r1
      obtain rfl : x1 = _ := z1
      obtain rfl : x2 = _ := z2
      obtain rfl : x3 = _ := z3
      exact ⟨by show 3 ≤ sizeLine; decide, fun p np => q S1 H1 p A1 B1 C1 (ok.grow g1).base np h3 h4 h5⟩
/-- one draw -/
abbrev cDraw : Con := ⟨Int, fun m => [.well, .dat (.int m)], fun m => 0 < m ∧ m < 1000, fun m d => ∃ i : Int, d = .int i ∧ 0 ≤ i ∧ i < m⟩
theorem ok__law_draw (T : Txt K mg) : DefOk P w K mg base 1 "_law_draw" cDraw := by
  refine m__law_draw T (fun _ => rfl) fun f cdv A outer s H E hr B m hm => ?_
  refine exs_cons (ex_if (et_cmp (by decide +kernel) (ev_wellIx 0 rfl (.inl rfl) fun n hn => ev_int (bo_gt (is_d (fun h0 => ?_) fun h0 => ?_)))))
  · refine exs_cons (ex_asg (ev_callB T.f_divmod (by decide +kernel) (ea_cons (ev_wellIx 0 rfl (.inl rfl) fun a ha => ea_cons (ev_var 1 rfl (ea_nil (bc_divmod hm.1 (by omega) ?_)))))))
    refine eg_tpw rfl (egs_cons (eg_wellSet 0 rfl (.inl rfl) ⟨fun _ => Int.ediv_nonneg (ha.1 rfl) (by omega), fun z => by omega⟩ (egs_cons (eg_name 2 sc__law_draw.nd (egs_nil ?_)))))
    exact exs_cons (ex_ret (ev_var 2 rfl ⟨_, rfl, Int.emod_nonneg _ (by omega), Int.emod_lt_of_pos _ hm.1⟩))
  · refine exs_nil (exs_cons (ex_asg (ev_bin (ev_wellIx 0 rfl (.inr (.inr rfl)) fun c _ => ev_int (bo_add (eg_wellSet 0 rfl (.inr (.inr rfl)) ⟨fun z => by omega, fun z => by omega⟩ ?_))))))
    refine exs_cons (ex_set 3 sc__law_draw.nd (ev_bin (ev_bin (ev_bin (ev_bin (ev_wellIx 0 rfl (.inr (.inl rfl)) fun b hb => ?_))))))
    refine ev_bin (ev_bin (ev_int (ev_wellIx 0 rfl (.inr (.inr rfl)) fun c _ => bo_mul (.inl (by decide)) (ev_int (bo_add (bo_mul (.inl (by have := hb.2 rfl; omega)) ?_))))))
    refine ev_bin (ev_int (ev_wellIx 0 rfl (.inr (.inr rfl)) fun c _ => bo_mul (.inl (by decide)) (bo_add (ev_int (bo_add (ev_int (bo_mod (by decide) ?_)))))))
    generalize hg : (_ : Int) % 2147483587 = g1
    have hg0 : 0 ≤ g1 ∧ g1 < 2147483587 := by rw [← hg]; exact ⟨Int.emod_nonneg _ (by decide), Int.emod_lt_of_pos _ (by decide)⟩
    refine exs_cons (ex_set 3 sc__law_draw.nd (ev_bin (ev_bin (ev_bin (ev_var 3 rfl (ev_int (bo_pow ⟨by decide, by decide, by omega⟩ (ev_int (bo_mod (by decide) (ev_int (bo_add ?_)))))))))))
    generalize hk : (_ : Int) % 2147483629 = g2
    have hk0 : 0 ≤ g2 ∧ g2 < 2147483629 := by rw [← hk]; exact ⟨Int.emod_nonneg _ (by decide), Int.emod_lt_of_pos _ (by decide)⟩
    refine exs_cons (ex_set 3 sc__law_draw.nd (ev_bin (ev_bin (ev_var 3 rfl (ev_bin (ev_bin (ev_var 3 rfl (ev_int (bo_fdiv ⟨by decide, by decide⟩ (ev_int (bo_add (bo_mul (.inl (by omega)) (ev_int (bo_mod (by decide) ?_))))))))))))))
    refine exs_cons (ex_ret (ev_bin (ev_bin (ev_var 3 rfl (ev_int (bo_fdiv ⟨by decide, by decide⟩ (ev_var 1 rfl (bo_mod hm.1 ?_))))))))
    exact ⟨_, rfl, Int.emod_nonneg _ (by omega), Int.emod_lt_of_pos _ hm.1⟩
end
end BA

set_option maxHeartbeats 4000000
namespace BA
/-! plain mathematics: forests with holes -/
inductive Fo where
  | nil | hole (r : Fo) | node (m : Nat) (cs r : Fo)
namespace Fo
def code : Fo → List Int
  | .nil => []
  | .hole r => -1 :: r.code
  | .node m cs r => (m : Int) :: (cs.code ++ r.code)
def len : Fo → Nat
  | .nil => 0
  | .hole r => r.len + 1
  | .node _ _ r => r.len + 1
def app : Fo → Fo → Fo
  | .nil, g => g
  | .hole r, g => .hole (r.app g)
  | .node m cs r, g => .node m cs (r.app g)
def holes : Fo → Nat
  | .nil => 0
  | .hole r => r.holes + 1
  | .node _ cs r => cs.holes + r.holes
def full : Fo → Prop
  | .nil => True
  | .hole _ => False
  | .node _ cs r => cs.full ∧ r.full
def wf (ws : List Nat) : Fo → Prop
  | .nil => True
  | .hole r => r.wf ws
  | .node m cs r => ws[m]? = some cs.len ∧ cs.wf ws ∧ r.wf ws
/-- how long the code of the first trees is -/
def pre : Nat → Fo → Nat
  | 0, _ => 0
  | _ + 1, .nil => 0
  | s + 1, .hole r => 1 + r.pre s
  | s + 1, .node _ cs r => 1 + cs.code.length + r.pre s
def allHoles : Nat → Fo
  | 0 => .nil
  | n + 1 => .hole (allHoles n)
def grow (k m w : Nat) : Fo → Fo
  | .nil => .nil
  | .hole r => if k = 0 then .node m (allHoles w) r else .hole (r.grow (k - 1) m w)
  | .node j cs r => if k < cs.holes then .node j (cs.grow k m w) r else .node j cs (r.grow (k - cs.holes) m w)
/-- how many holes are ahead of the slot, if a hole is there -/
def holeAt : Nat → Fo → Option Nat
  | _, .nil => none
  | 0, .hole _ => some 0
  | 0, .node _ _ _ => none
  | s + 1, .hole r => (r.holeAt s).map (· + 1)
  | s + 1, .node _ cs r => (r.holeAt s).map (· + cs.holes)
theorem code_app : ∀ (f g : Fo), (f.app g).code = f.code ++ g.code
  | .nil, _ => rfl
  | .hole r, g => by show -1 :: (r.app g).code = -1 :: r.code ++ g.code; rw [code_app r g]; rfl
  | .node m cs r, g => by show (m : Int) :: (cs.code ++ (r.app g).code) = (m : Int) :: (cs.code ++ r.code) ++ g.code; rw [code_app r g]; simp
theorem len_app : ∀ (f g : Fo), (f.app g).len = f.len + g.len
  | .nil, _ => by simp [app, len]
  | .hole r, g => by show (r.app g).len + 1 = r.len + 1 + g.len; rw [len_app r g]; omega
  | .node m cs r, g => by show (r.app g).len + 1 = r.len + 1 + g.len; rw [len_app r g]; omega
theorem holes_app : ∀ (f g : Fo), (f.app g).holes = f.holes + g.holes
  | .nil, _ => by simp [app, holes]
  | .hole r, g => by show (r.app g).holes + 1 = r.holes + 1 + g.holes; rw [holes_app r g]; omega
  | .node m cs r, g => by show cs.holes + (r.app g).holes = cs.holes + r.holes + g.holes; rw [holes_app r g]; omega
theorem wf_app {ws : List Nat} : ∀ {f g : Fo}, f.wf ws → g.wf ws → (f.app g).wf ws
  | .nil, _, _, h => h
  | .hole r, g, h, h2 => wf_app (f := r) h h2
  | .node m cs r, g, h, h2 => ⟨h.1, h.2.1, wf_app h.2.2 h2⟩
theorem full_app : ∀ {f g : Fo}, f.full → g.full → (f.app g).full
  | .nil, _, _, h => h
  | .hole r, g, h, h2 => h.elim
  | .node m cs r, g, h, h2 => ⟨h.1, full_app h.2 h2⟩
theorem app_inj : ∀ {f g f' g' : Fo}, f.app g = f'.app g' → f.len = f'.len → f = f' ∧ g = g'
  | .nil, _, .nil, _, h, _ => ⟨rfl, h⟩
  | .hole r, _, .hole r', _, h, l => by
    have h1 : r.app _ = r'.app _ := Fo.hole.inj h
    have q := app_inj h1 (Nat.succ.inj l)
    exact ⟨by rw [q.1], q.2⟩
  | .node m cs r, _, .node m' cs' r', _, h, l => by
    obtain ⟨h1, h2, h3⟩ := Fo.node.inj (show Fo.node m cs (r.app _) = Fo.node m' cs' (r'.app _) from h)
    have q := app_inj h3 (Nat.succ.inj l)
    exact ⟨by rw [q.1, h1, h2], q.2⟩
  | .nil, _, .hole _, _, _, l => by cases l
  | .nil, _, .node _ _ _, _, _, l => by cases l
  | .hole _, _, .nil, _, _, l => by cases l
  | .node _ _ _, _, .nil, _, _, l => by cases l
  | .hole _, _, .node _ _ _, _, h, _ => by cases h
  | .node _ _ _, _, .hole _, _, h, _ => by cases h
theorem len_allHoles : ∀ n, (allHoles n).len = n
  | 0 => rfl
  | n + 1 => by show (allHoles n).len + 1 = n + 1; rw [len_allHoles n]
theorem holes_allHoles : ∀ n, (allHoles n).holes = n
  | 0 => rfl
  | n + 1 => by show (allHoles n).holes + 1 = n + 1; rw [holes_allHoles n]
theorem wf_allHoles {ws : List Nat} : ∀ n, (allHoles n).wf ws
  | 0 => trivial
  | n + 1 => wf_allHoles n
theorem code_allHoles : ∀ n, (allHoles n).code = List.replicate n (-1)
  | 0 => rfl
  | n + 1 => by show -1 :: (allHoles n).code = _; rw [code_allHoles n]; rfl
theorem grow_hole0 {m w : Nat} {r : Fo} : (Fo.hole r).grow 0 m w = .node m (allHoles w) r := by rw [grow, if_pos rfl]
theorem grow_holeS {k m w : Nat} {r : Fo} : (Fo.hole r).grow (k + 1) m w = .hole (r.grow k m w) := by rw [grow, if_neg (Nat.succ_ne_zero k)]; rfl
theorem grow_in {k m w j : Nat} {cs r : Fo} (h : k < cs.holes) : (Fo.node j cs r).grow k m w = .node j (cs.grow k m w) r := by rw [grow, if_pos h]
theorem grow_out {k m w j : Nat} {cs r : Fo} (h : ¬ k < cs.holes) : (Fo.node j cs r).grow k m w = .node j cs (r.grow (k - cs.holes) m w) := by rw [grow, if_neg h]
theorem grow_len {m w : Nat} : ∀ {f : Fo} {k : Nat}, (f.grow k m w).len = f.len
  | .nil, _ => rfl
  | .hole r, 0 => by rw [grow_hole0]; rfl
  | .hole r, k + 1 => by rw [grow_holeS]; show (r.grow k m w).len + 1 = r.len + 1; rw [grow_len]
  | .node j cs r, k => by
    by_cases h : k < cs.holes
    · rw [grow_in h]; rfl
    · rw [grow_out h]; show (r.grow (k - cs.holes) m w).len + 1 = r.len + 1; rw [grow_len]
theorem grow_wf {ws : List Nat} {m w : Nat} (hw : ws[m]? = some w) : ∀ {f : Fo} {k : Nat}, f.wf ws → (f.grow k m w).wf ws
  | .nil, _, _ => trivial
  | .hole r, 0, h => by rw [grow_hole0]; exact ⟨by rw [len_allHoles]; exact hw, wf_allHoles w, h⟩
  | .hole r, k + 1, h => by rw [grow_holeS]; exact grow_wf hw (f := r) h
  | .node j cs r, k, h => by
    by_cases h0 : k < cs.holes
    · rw [grow_in h0]; exact ⟨by rw [grow_len]; exact h.1, grow_wf hw h.2.1, h.2.2⟩
    · rw [grow_out h0]; exact ⟨h.1, h.2.1, grow_wf hw h.2.2⟩
theorem holes_hole {r : Fo} : (Fo.hole r).holes = r.holes + 1 := rfl
theorem holes_node {j : Nat} {cs r : Fo} : (Fo.node j cs r).holes = cs.holes + r.holes := rfl
theorem grow_app {m w : Nat} : ∀ {f g : Fo} {k : Nat}, (f.app g).grow k m w = if k < f.holes then (f.grow k m w).app g else f.app (g.grow (k - f.holes) m w)
  | .nil, _, _ => by rw [if_neg (show ¬ _ < Fo.nil.holes from Nat.not_lt_zero _)]; rfl
  | .hole r, g, 0 => by
    rw [holes_hole, if_pos (show 0 < r.holes + 1 by omega), grow_hole0]
    exact grow_hole0
  | .hole r, g, k + 1 => by
    show (Fo.hole (r.app g)).grow (k + 1) m w = _
    rw [grow_holeS, grow_holeS, grow_app, holes_hole]
    by_cases h2 : k < r.holes
    · rw [if_pos h2, if_pos (show k + 1 < r.holes + 1 by omega)]; rfl
    · rw [if_neg h2, if_neg (show ¬ k + 1 < r.holes + 1 by omega)]
      have e : k - r.holes = k + 1 - (r.holes + 1) := by omega
      rw [e]; rfl
  | .node j cs r, g, k => by
    show (Fo.node j cs (r.app g)).grow k m w = _
    rw [holes_node]
    by_cases h : k < cs.holes
    · rw [grow_in h, grow_in h, if_pos (show k < cs.holes + r.holes by omega)]; rfl
    · rw [grow_out h, grow_out h, grow_app]
      by_cases h2 : k - cs.holes < r.holes
      · rw [if_pos h2, if_pos (show k < cs.holes + r.holes by omega)]; rfl
      · rw [if_neg h2, if_neg (show ¬ k < cs.holes + r.holes by omega)]
        have e : k - cs.holes - r.holes = k - (cs.holes + r.holes) := by omega
        rw [e]; rfl
theorem code_count : ∀ f : Fo, f.code.count (-1) = f.holes
  | .nil => rfl
  | .hole r => by show (-1 :: r.code).count (-1) = r.holes + 1; rw [List.count_cons_self, code_count r]
  | .node j cs r => by
    show ((j : Int) :: (cs.code ++ r.code)).count (-1) = cs.holes + r.holes
    rw [List.count_cons_of_ne (by omega), List.count_append, code_count cs, code_count r]
theorem grow_code {m w : Nat} : ∀ {f : Fo} {k : Nat}, k < f.holes → ∃ A Z, f.code = A ++ -1 :: Z ∧ A.count (-1) = k ∧ (f.grow k m w).code = A ++ (m : Int) :: (List.replicate w (-1) ++ Z)
  | .nil, _, h => by cases h
  | .hole r, 0, h => by
    rw [grow_hole0]
    exact ⟨[], r.code, rfl, rfl, by show (m : Int) :: ((allHoles w).code ++ r.code) = _; rw [code_allHoles]; rfl⟩
  | .hole r, k + 1, h => by
    rw [grow_holeS]
    obtain ⟨A, Z, e1, e2, e3⟩ := grow_code (m := m) (w := w) (f := r) (k := k) (Nat.lt_of_succ_lt_succ h)
    exact ⟨-1 :: A, Z, by show -1 :: r.code = _; rw [e1]; rfl, by rw [List.count_cons_self, e2], by show -1 :: (r.grow k m w).code = _; rw [e3]; rfl⟩
  | .node j cs r, k, h => by
    have hj : ((j : Nat) : Int) ≠ -1 := by omega
    by_cases h0 : k < cs.holes
    · rw [grow_in h0]
      obtain ⟨A, Z, e1, e2, e3⟩ := grow_code (m := m) (w := w) h0
      refine ⟨(j : Int) :: A, Z ++ r.code, ?_, ?_, ?_⟩
      · show (j : Int) :: (cs.code ++ r.code) = _
        rw [e1]; simp
      · rw [List.count_cons_of_ne hj, e2]
      · show (j : Int) :: ((cs.grow k m w).code ++ r.code) = _
        rw [e3]; simp
    · rw [grow_out h0]
      obtain ⟨A, Z, e1, e2, e3⟩ := grow_code (m := m) (w := w) (f := r) (k := k - cs.holes) (by have : k < cs.holes + r.holes := h; omega)
      refine ⟨(j : Int) :: (cs.code ++ A), Z, ?_, ?_, ?_⟩
      · show (j : Int) :: (cs.code ++ r.code) = _
        rw [e1]; simp
      · rw [List.count_cons_of_ne hj, List.count_append, e2, code_count]; omega
      · show (j : Int) :: (cs.code ++ (r.grow (k - cs.holes) m w).code) = _
        rw [e3]; simp
theorem grow_holes {m w : Nat} {f : Fo} {k : Nat} (h : k < f.holes) : (f.grow k m w).holes = f.holes - 1 + w := by
  obtain ⟨A, Z, e1, e2, e3⟩ := grow_code (m := m) (w := w) h
  rw [← code_count, ← code_count f, e3, e1]
  have hm : ((m : Nat) : Int) ≠ -1 := by omega
  simp only [List.count_append, List.count_cons_self, List.count_cons_of_ne hm, List.count_replicate_self]
  omega
/-- an opening: the tree at the slot is taken off its root -/
inductive Op (ws : List Nat) : Nat → Fo → Nat → Fo → Prop
  | zero {m : Nat} {cs r g : Fo} : ws[m]? = some cs.len → g = cs.app r → Op ws 0 (.node m cs r) m g
  | hole {s m : Nat} {r g : Fo} : Op ws s r m g → Op ws (s + 1) (.hole r) m (.hole g)
  | node {s m k : Nat} {cs r g : Fo} : Op ws s r m g → Op ws (s + 1) (.node k cs r) m (.node k cs g)
variable {ws : List Nat}
theorem Op.inj {s m : Nat} {f f' g : Fo} (h : Op ws s f m g) (h' : Op ws s f' m g) : f = f' := by
  induction h generalizing f' with
  | @zero m cs r g hw e =>
    cases h' with
    | @zero _ cs' r' _ hw' e' =>
      have q := app_inj (e.symm.trans e') (Option.some.inj (hw.symm.trans hw'))
      rw [q.1, q.2]
  | hole _ ih => cases h' with | hole h' => rw [ih h']
  | node _ ih => cases h' with | node h' => rw [ih h']
/-- in code: the root's number is taken out -/
theorem Op.code {s m : Nat} {f g : Fo} (h : Op ws s f m g) : ∃ A Z, f.code = A ++ (m : Int) :: Z ∧ g.code = A ++ Z ∧ f.pre s = A.length ∧ g.pre s = A.length ∧ ws[m]? ≠ none := by
  induction h with
  | @zero m cs r g hw e => exact ⟨[], cs.code ++ r.code, rfl, by rw [e, code_app]; rfl, rfl, by cases g <;> rfl, by rw [hw]; simp⟩
  | @hole s m r g _ ih =>
    obtain ⟨A, Z, e1, e2, e3, e4, e5⟩ := ih
    exact ⟨-1 :: A, Z, by show -1 :: r.code = _; rw [e1]; rfl, by show -1 :: g.code = _; rw [e2]; rfl, by show 1 + r.pre s = _; rw [e3, List.length_cons]; omega, by show 1 + g.pre s = _; rw [e4, List.length_cons]; omega, e5⟩
  | @node s m k cs r g _ ih =>
    obtain ⟨A, Z, e1, e2, e3, e4, e5⟩ := ih
    refine ⟨(k : Int) :: (cs.code ++ A), Z, ?_, ?_, ?_, ?_, e5⟩
    · show (k : Int) :: (cs.code ++ r.code) = _
      rw [e1]; simp
    · show (k : Int) :: (cs.code ++ g.code) = _
      rw [e2]; simp
    · show 1 + cs.code.length + r.pre s = _
      rw [e3]; simp; omega
    · show 1 + cs.code.length + g.pre s = _
      rw [e4]; simp; omega
theorem Op.wf {s m : Nat} {f g : Fo} (h : Op ws s f m g) : f.wf ws → g.wf ws := by
  induction h with
  | zero _ e => intro q; rw [e]; exact wf_app q.2.1 q.2.2
  | hole _ ih => exact ih
  | node _ ih => exact fun q => ⟨q.1, q.2.1, ih q.2.2⟩
theorem Op.full {s m : Nat} {f g : Fo} (h : Op ws s f m g) : f.full → g.full := by
  induction h with
  | zero _ e => intro q; rw [e]; exact full_app q.1 q.2
  | hole _ ih => exact fun q => q.elim
  | node _ ih => exact fun q => ⟨q.1, ih q.2⟩
theorem Op.len {s m : Nat} {f g : Fo} (h : Op ws s f m g) : ∃ w, ws[m]? = some w ∧ g.len + 1 = f.len + w ∧ s < f.len := by
  induction h with
  | @zero m cs r g hw e => exact ⟨_, hw, by rw [e, len_app]; show _ = r.len + 1 + _; omega, Nat.succ_pos _⟩
  | @hole s m r g _ ih =>
    obtain ⟨w, e1, e2, e3⟩ := ih
    exact ⟨w, e1, by show g.len + 1 + 1 = r.len + 1 + w; omega, Nat.succ_lt_succ e3⟩
  | @node s m k cs r g _ ih =>
    obtain ⟨w, e1, e2, e3⟩ := ih
    exact ⟨w, e1, by show g.len + 1 + 1 = r.len + 1 + w; omega, Nat.succ_lt_succ e3⟩
theorem Op.holes {s m : Nat} {f g : Fo} (h : Op ws s f m g) : g.holes = f.holes := by
  induction h with
  | @zero m cs r g hw e => rw [e, holes_app]; rfl
  | @hole s m r g _ ih => show g.holes + 1 = r.holes + 1; rw [ih]
  | @node s m k cs r g _ ih => show cs.holes + g.holes = cs.holes + r.holes; rw [ih]
theorem Op.ex : ∀ {f : Fo} {s : Nat}, f.wf ws → s < f.len → f.holeAt s = none → ∃ m g, Op ws s f m g
  | .nil, s, _, h, _ => by cases h
  | .hole r, 0, _, _, h => by cases h
  | .node m cs r, 0, w, _, _ => ⟨m, _, .zero w.1 rfl⟩
  | .hole r, s + 1, w, h, h2 => by
    obtain ⟨m, g, q⟩ := Op.ex (f := r) (s := s) w (Nat.lt_of_succ_lt_succ h) (Option.map_eq_none_iff.mp h2)
    exact ⟨m, _, .hole q⟩
  | .node k cs r, s + 1, w, h, h2 => by
    obtain ⟨m, g, q⟩ := Op.ex (f := r) (s := s) w.2.2 (Nat.lt_of_succ_lt_succ h) (Option.map_eq_none_iff.mp h2)
    exact ⟨m, _, .node q⟩
theorem full_holeAt : ∀ {f : Fo} {s : Nat}, f.full → f.holeAt s = none
  | .nil, s, _ => by cases s <;> rfl
  | .hole r, _, h => h.elim
  | .node m cs r, 0, _ => rfl
  | .node m cs r, s + 1, h => Option.map_eq_none_iff.mpr (full_holeAt h.2)
theorem holeAt_lt : ∀ {f : Fo} {s k : Nat}, f.holeAt s = some k → k < f.holes
  | .nil, s, _, h => by cases s <;> cases h
  | .hole r, 0, k, h => by cases h; exact Nat.succ_pos _
  | .node _ _ _, 0, _, h => by cases h
  | .hole r, s + 1, k, h => by
    obtain ⟨k', e, rfl⟩ := Option.map_eq_some_iff.mp h
    exact Nat.succ_lt_succ (holeAt_lt e)
  | .node _ cs r, s + 1, k, h => by
    obtain ⟨k', e, rfl⟩ := Option.map_eq_some_iff.mp h
    have := holeAt_lt e
    show k' + cs.holes < cs.holes + r.holes
    omega
/-- a hole grown can be opened -/
theorem Op.grown {m w : Nat} (hw : ws[m]? = some w) : ∀ {f : Fo} {s k : Nat}, f.holeAt s = some k → ∃ g, Op ws s (f.grow k m w) m g
  | .nil, s, _, h => by cases s <;> cases h
  | .hole r, 0, k, h => by cases h; exact ⟨_, by rw [grow_hole0]; exact .zero (by rw [len_allHoles]; exact hw) rfl⟩
  | .node _ _ _, 0, _, h => by cases h
  | .hole r, s + 1, k, h => by
    obtain ⟨k', e, rfl⟩ := Option.map_eq_some_iff.mp h
    obtain ⟨g, q⟩ := Op.grown hw e
    exact ⟨_, by rw [grow_holeS]; exact .hole q⟩
  | .node _ cs r, s + 1, k, h => by
    obtain ⟨k', e, rfl⟩ := Option.map_eq_some_iff.mp h
    obtain ⟨g, q⟩ := Op.grown hw e
    exact ⟨.node _ cs g, by rw [grow_out (by omega), Nat.add_sub_cancel]; exact .node q⟩
/-- growing goes through an opening -/
theorem Op.grow {k m' w : Nat} {s m : Nat} {f g : Fo} (h : Op ws s f m g) : Op ws s (f.grow k m' w) m (g.grow k m' w) := by
  induction h generalizing k with
  | @zero m cs r g hw e =>
    subst e
    rw [grow_app]
    by_cases h : k < cs.holes
    · rw [grow_in h, if_pos h]
      exact .zero (by rw [grow_len]; exact hw) rfl
    · rw [grow_out h, if_neg h]
      exact .zero hw rfl
  | @hole s m r g q ih =>
    cases k with
    | zero => rw [grow_hole0, grow_hole0]; exact .node q
    | succ k => rw [grow_holeS, grow_holeS]; exact .hole ih
  | @node s m j cs r g q ih =>
    by_cases h : k < cs.holes
    · rw [grow_in h, grow_in h]; exact .node q
    · rw [grow_out h, grow_out h]; exact .node ih
/-- the code at a slot -/
theorem holeAt_code : ∀ {f : Fo} {s : Nat}, s < f.len → ∃ A x Z, f.code = A ++ x :: Z ∧ f.pre s = A.length ∧ (f.holeAt s = none → x ≠ -1) ∧ ∀ k, f.holeAt s = some k → x = -1 ∧ A.count (-1) = k
  | .nil, s, h => by cases h
  | .hole r, 0, _ => ⟨[], -1, r.code, rfl, rfl, fun z => (by cases z), fun k z => (by cases z; exact ⟨rfl, rfl⟩)⟩
  | .node m cs r, 0, _ => ⟨[], m, cs.code ++ r.code, rfl, rfl, fun _ => (by omega), fun k z => (by cases z)⟩
  | .hole r, s + 1, h => by
    obtain ⟨A, x, Z, e1, e2, e3, e4⟩ := holeAt_code (f := r) (Nat.lt_of_succ_lt_succ h)
    refine ⟨-1 :: A, x, Z, by show -1 :: r.code = _; rw [e1]; rfl, by show 1 + r.pre s = _; rw [e2, List.length_cons]; omega, fun z => e3 (Option.map_eq_none_iff.mp z), fun k z => ?_⟩
    obtain ⟨k', e, rfl⟩ := Option.map_eq_some_iff.mp z
    exact ⟨(e4 k' e).1, by rw [List.count_cons_self, (e4 k' e).2]⟩
  | .node m cs r, s + 1, h => by
    obtain ⟨A, x, Z, e1, e2, e3, e4⟩ := holeAt_code (f := r) (Nat.lt_of_succ_lt_succ h)
    refine ⟨(m : Int) :: (cs.code ++ A), x, Z, ?_, ?_, fun z => e3 (Option.map_eq_none_iff.mp z), fun k z => ?_⟩
    · show (m : Int) :: (cs.code ++ r.code) = _
      rw [e1]; simp
    · show 1 + cs.code.length + r.pre s = _
      rw [e2]; simp; omega
    · obtain ⟨k', e, rfl⟩ := Option.map_eq_some_iff.mp z
      refine ⟨(e4 k' e).1, ?_⟩
      rw [List.count_cons_of_ne (by omega), List.count_append, (e4 k' e).2, code_count]
      omega
theorem Op.behind : ∀ (cs : Fo) {r g : Fo} {s m : Nat}, Op ws (cs.len + s) (cs.app r) m g → ∃ r', Op ws s r m r' ∧ g = cs.app r'
  | .nil, r, g, s, m, h => ⟨g, by rw [show Fo.nil.len + s = s from Nat.zero_add s] at h; exact h, rfl⟩
  | .hole c, r, g, s, m, h => by
    rw [show (Fo.hole c).len + s = (c.len + s) + 1 by show c.len + 1 + s = _; omega] at h
    cases h with
    | hole h =>
      obtain ⟨r', x, e⟩ := Op.behind c h
      exact ⟨r', x, by rw [e]; rfl⟩
  | .node k c1 c, r, g, s, m, h => by
    rw [show (Fo.node k c1 c).len + s = (c.len + s) + 1 by show c.len + 1 + s = _; omega] at h
    cases h with
    | node h =>
      obtain ⟨r', x, e⟩ := Op.behind c h
      exact ⟨r', x, by rw [e]; rfl⟩
/-- two openings at different slots -/
theorem Op.swap {f : Fo} {lo hi m1 m2 w1 : Nat} {g h : Fo} (lt : lo < hi) (hw : ws[m1]? = some w1) (a : Op ws lo f m1 g) (b : Op ws (hi - 1 + w1) g m2 h) : ∃ g', Op ws hi f m2 g' ∧ Op ws lo g' m1 h := by
  induction a generalizing hi h with
  | @zero m cs r g hw' e =>
    have e1 : w1 = cs.len := Option.some.inj (hw.symm.trans hw')
    subst e e1
    obtain ⟨hi, rfl⟩ : ∃ k, hi = k + 1 := ⟨hi - 1, by omega⟩
    obtain ⟨r', q, rfl⟩ := Op.behind cs (s := hi) (by rw [Nat.add_comm]; exact b)
    exact ⟨.node m cs r', .node q, .zero hw' rfl⟩
  | @hole s m r g q ih =>
    obtain ⟨hi, rfl⟩ : ∃ k, hi = k + 1 := ⟨hi - 1, by omega⟩
    have e : hi + 1 - 1 + w1 = (hi - 1 + w1) + 1 := by omega
    rw [e] at b
    cases b with
    | hole b =>
      obtain ⟨g', x, y⟩ := ih (by omega) hw b
      exact ⟨_, .hole x, .hole y⟩
  | @node s m k cs r g q ih =>
    obtain ⟨hi, rfl⟩ : ∃ k, hi = k + 1 := ⟨hi - 1, by omega⟩
    have e : hi + 1 - 1 + w1 = (hi - 1 + w1) + 1 := by omega
    rw [e] at b
    cases b with
    | node b =>
      obtain ⟨g', x, y⟩ := ih (by omega) hw b
      exact ⟨_, .node x, .node y⟩
theorem wf_app_inv : ∀ {f g : Fo}, (f.app g).wf ws → f.wf ws ∧ g.wf ws
  | .nil, _, h => ⟨trivial, h⟩
  | .hole r, g, h => wf_app_inv (f := r) h
  | .node m cs r, g, h => by
    have q := wf_app_inv (f := r) h.2.2
    exact ⟨⟨h.1, h.2.1, q.1⟩, q.2⟩
theorem Op.wf_inv {s m : Nat} {f g : Fo} (h : Op ws s f m g) : g.wf ws → f.wf ws := by
  induction h with
  | zero hw e =>
    intro q
    rw [e] at q
    have q := wf_app_inv q
    exact ⟨hw, q.1, q.2⟩
  | hole _ ih => exact ih
  | node _ ih => exact fun q => ⟨q.1, q.2.1, ih q.2.2⟩
theorem Op.det {s m m' : Nat} {f g g' : Fo} (h : Op ws s f m g) (h' : Op ws s f m' g') : m = m' ∧ g = g' := by
  induction h generalizing g' with
  | zero hw e => cases h' with | zero hw' e' => exact ⟨rfl, by rw [e, e']⟩
  | hole _ ih => cases h' with | hole h' => have := ih h'; exact ⟨this.1, by rw [this.2]⟩
  | node _ ih => cases h' with | node h' => have := ih h'; exact ⟨this.1, by rw [this.2]⟩
theorem Op.lt {s m : Nat} {f g : Fo} (h : Op ws s f m g) : m < ws.length := by
  obtain ⟨w, e, _⟩ := h.len
  exact (List.getElem?_eq_some_iff.mp e).1
end Fo
end BA

set_option maxHeartbeats 4000000
namespace BA
open Fo
/-! plain mathematics: things, racks, steps -/
structure Th where
  at_ : Nat
  f : Fo
inductive Stp where
  | op (p s : Nat) | cl (p s : Nat) | ord (ps : List Nat)
def OpMv (ws : List Nat) (p s : Nat) (a b : Th) : Prop :=
  (a.at_ < p ∧ b.at_ = a.at_ ∧ b.f = a.f) ∨ (p < a.at_ ∧ b.at_ = a.at_ + (ws.length - 1) ∧ b.f = a.f) ∨ (a.at_ = p ∧ ∃ m, Op ws s a.f m b.f ∧ b.at_ = p + m)
def Mv (ws : List Nat) : Stp → Th → Th → Prop
  | .op p s, a, b => OpMv ws p s a b
  | .cl p s, a, b => OpMv ws p s b a
  | .ord ps, a, b => a.f = b.f ∧ ps.Nodup ∧ ps[b.at_]? = some a.at_
def inv (ps : List Nat) : List Nat := (List.range ps.length).map fun i => ps.idxOf i
def und : Stp → Stp
  | .op p s => .cl p s
  | .cl p s => .op p s
  | .ord ps => .ord (inv ps)
def OpRk (ws : List Nat) (p s : Nat) (r r' : List Nat) : Prop := ∃ A m Z, r = A ++ m :: Z ∧ A.length = p ∧ s < m ∧ r' = A ++ (ws.map (m - 1 + ·) ++ Z)
/-- a permutation of the places below n -/
structure Pm (n : Nat) (ps : List Nat) : Prop where
  len : ps.length = n
  nd : ps.Nodup
  lt : ∀ p ∈ ps, p < n
def RkMv (ws : List Nat) : Stp → List Nat → List Nat → Prop
  | .op p s, r, r' => OpRk ws p s r r'
  | .cl p s, r, r' => OpRk ws p s r' r
  | .ord ps, r, r' => Pm r.length ps ∧ r' = ps.map fun p => r.getD p 0
def RkOk (r : List Nat) : Prop := r.length ≤ 400 ∧ ∀ x ∈ r, x ≤ 200
inductive Run (ws : List Nat) : List Nat → List Stp → List Nat → Prop
  | nil {r} : Run ws r [] r
  | cons {r r' r'' st sts} : RkMv ws st r r' → RkOk r' → Run ws r' sts r'' → Run ws r (st :: sts) r''
inductive MvRun (ws : List Nat) : Th → List Stp → Th → Prop
  | nil {t} : MvRun ws t [] t
  | cons {t t' t'' st sts} : Mv ws st t t' → MvRun ws t' sts t'' → MvRun ws t (st :: sts) t''
def ThP (ws r : List Nat) (t : Th) : Prop := t.f.wf ws ∧ r[t.at_]? = some t.f.len
def plain : Stp → Prop
  | .cl _ _ => False
  | _ => True
variable {ws : List Nat}
theorem MvRun.append {t u v : Th} {A B : List Stp} (h : MvRun ws t A u) (h2 : MvRun ws u B v) : MvRun ws t (A ++ B) v := by
  induction h with
  | nil => exact h2
  | cons a _ ih => exact .cons a (ih h2)
theorem MvRun.split {t v : Th} : ∀ {A B : List Stp}, MvRun ws t (A ++ B) v → ∃ u, MvRun ws t A u ∧ MvRun ws u B v
  | [], _, h => ⟨t, .nil, h⟩
  | _ :: A, _, h => by
    cases h with
    | cons a b =>
      obtain ⟨u, x, y⟩ := b.split
      exact ⟨u, .cons a x, y⟩
theorem MvRun.one {st : Stp} {t v : Th} (h : MvRun ws t [st] v) : Mv ws st t v := by
  cases h with | cons a b => cases b with | nil => exact a
theorem Run.append {t u v : List Nat} {A B : List Stp} (h : Run ws t A u) (h2 : Run ws u B v) : Run ws t (A ++ B) v := by
  induction h with
  | nil => exact h2
  | cons a b _ ih => exact .cons a b (ih h2)
theorem Th.ext' {a b : Th} (h1 : a.at_ = b.at_) (h2 : a.f = b.f) : a = b := by
  cases a; cases b; cases h1; cases h2; rfl
theorem OpMv.inj {p s : Nat} {a b c : Th} (h : OpMv ws p s a c) (h' : OpMv ws p s b c) : a = b := by
  rcases h with ⟨h1, h2, h3⟩ | ⟨h1, h2, h3⟩ | ⟨h1, m, h2, h3⟩ <;> rcases h' with ⟨k1, k2, k3⟩ | ⟨k1, k2, k3⟩ | ⟨k1, m', k2, k3⟩
  · exact Th.ext' (by omega) (h3.symm.trans k3)
  · omega
  · have := k2.lt; omega
  · omega
  · exact Th.ext' (by omega) (h3.symm.trans k3)
  · have := k2.lt; omega
  · have := h2.lt; omega
  · have := h2.lt; omega
  · have e : m = m' := by omega
    subst e
    exact Th.ext' (by omega) (h2.inj k2)
theorem OpMv.det {p s : Nat} {a b c : Th} (h : OpMv ws p s a b) (h' : OpMv ws p s a c) : b = c := by
  rcases h with ⟨h1, h2, h3⟩ | ⟨h1, h2, h3⟩ | ⟨h1, m, h2, h3⟩ <;> rcases h' with ⟨k1, k2, k3⟩ | ⟨k1, k2, k3⟩ | ⟨k1, m', k2, k3⟩
  all_goals first
    | omega
    | exact Th.ext' (by omega) (h3.trans k3.symm)
    | skip
  have q := h2.det k2
  exact Th.ext' (by omega) q.2
theorem getElem?_inj {ps : List Nat} (nd : ps.Nodup) {i j p : Nat} (h : ps[i]? = some p) (h' : ps[j]? = some p) : i = j := by
  obtain ⟨hi, e⟩ := List.getElem?_eq_some_iff.mp h
  obtain ⟨hj, e'⟩ := List.getElem?_eq_some_iff.mp h'
  have key := List.pairwise_iff_getElem.mp nd
  rcases Nat.lt_trichotomy i j with z | z | z
  · exact absurd (e.trans e'.symm) (key i j hi hj z)
  · exact z
  · exact absurd (e'.trans e.symm) (key j i hj hi z)
theorem Mv.inj {st : Stp} {a b c : Th} (h : Mv ws st a c) (h' : Mv ws st b c) : a = b := by
  cases st with
  | op p s => exact OpMv.inj h h'
  | cl p s => exact OpMv.det (ws := ws) h h'
  | ord ps =>
    obtain ⟨h1, h2, h3⟩ := h
    obtain ⟨k1, k2, k3⟩ := h'
    exact Th.ext' (Option.some.inj (h3.symm.trans k3)) (h1.trans k1.symm)
theorem idxOf_at {ps : List Nat} (nd : ps.Nodup) {i p : Nat} (h : ps[i]? = some p) : ps.idxOf p = i := by
  have hm : p ∈ ps := List.mem_of_getElem? h
  have hl : ps.idxOf p < ps.length := List.idxOf_lt_length_of_mem hm
  refine getElem?_inj nd (p := p) ?_ h
  rw [List.getElem?_eq_getElem hl, List.getElem_idxOf]
theorem inv_length (ps : List Nat) : (inv ps).length = ps.length := by unfold inv; rw [List.length_map, List.length_range]
theorem Pm.mem {n : Nat} {ps : List Nat} (h : Pm n ps) {i : Nat} (hi : i < n) : i ∈ ps := by
  have key : ∀ (n : Nat) (ps : List Nat), ps.Nodup → (∀ p ∈ ps, p < n) → ps.length ≤ n ∧ (ps.length = n → ∀ i, i < n → i ∈ ps) := by
    intro n
    induction n with
    | zero =>
      intro ps nd lt
      cases ps with
      | nil => exact ⟨Nat.le_refl _, fun _ i hi => by omega⟩
      | cons a as => exact absurd (lt a (List.mem_cons_self ..)) (Nat.not_lt_zero _)
    | succ n ih =>
      intro ps nd lt
      have q := ih (ps.erase n) (nd.erase n) fun p hp => by
        have h1 := lt p (List.mem_of_mem_erase hp)
        have h2 : p ≠ n := fun z => (List.Nodup.mem_erase_iff nd).mp hp |>.1 z
        omega
      by_cases hn : n ∈ ps
      · rw [List.length_erase_of_mem hn] at q
        have := List.length_pos_of_mem hn
        refine ⟨by omega, fun e i hi => ?_⟩
        by_cases z : i = n
        · exact z ▸ hn
        · exact List.mem_of_mem_erase (q.2 (by omega) i (by omega))
      · rw [List.erase_of_not_mem hn] at q
        refine ⟨by omega, fun e i hi => ?_⟩
        omega
  exact (key n ps h.nd h.lt).2 h.len i hi
theorem nodup_len {n : Nat} {ps : List Nat} (nd : ps.Nodup) (lt : ∀ p ∈ ps, p < n) : ps.length ≤ n := by
  induction n generalizing ps with
  | zero =>
    cases ps with
    | nil => exact Nat.le_refl _
    | cons a as => exact absurd (lt a (List.mem_cons_self ..)) (Nat.not_lt_zero _)
  | succ n ih =>
    have q := ih (ps := ps.erase n) (nd.erase n) fun p hp => by
      have h1 := lt p (List.mem_of_mem_erase hp)
      have h2 : p ≠ n := fun z => (List.Nodup.mem_erase_iff nd).mp hp |>.1 z
      omega
    by_cases hn : n ∈ ps
    · rw [List.length_erase_of_mem hn] at q; omega
    · rw [List.erase_of_not_mem hn] at q; omega
theorem Pm.inv_at {n : Nat} {ps : List Nat} (h : Pm n ps) {i p : Nat} (e : ps[i]? = some p) : (inv ps)[p]? = some i := by
  have hp : p < ps.length := by rw [h.len]; exact h.lt p (List.mem_of_getElem? e)
  unfold inv
  rw [List.getElem?_map, List.getElem?_range hp]
  show some (ps.idxOf p) = some i
  rw [idxOf_at h.nd e]
theorem Pm.inv_of {n : Nat} {ps : List Nat} (h : Pm n ps) {i p : Nat} (e : (inv ps)[p]? = some i) : ps[i]? = some p := by
  obtain ⟨hp, _⟩ := List.getElem?_eq_some_iff.mp e
  rw [inv_length] at hp
  have hm := h.mem (i := p) (by rw [← h.len]; exact hp)
  obtain ⟨j, hj⟩ := List.getElem?_of_mem hm
  have := h.inv_at hj
  rw [this] at e
  cases e
  exact hj
theorem Pm.inv {n : Nat} {ps : List Nat} (h : Pm n ps) : Pm n (inv ps) := by
  refine ⟨by rw [inv_length, h.len], ?_, fun p hp => ?_⟩
  · rw [List.nodup_iff_pairwise_ne, List.pairwise_iff_getElem]
    intro i j hi hj lt e
    have a := h.inv_of (List.getElem?_eq_getElem hi)
    have b := h.inv_of (List.getElem?_eq_getElem hj)
    rw [e] at a
    rw [a] at b
    have := Option.some.inj b
    omega
  · obtain ⟨j, hj⟩ := List.getElem?_of_mem hp
    have := h.inv_of hj
    have := (List.getElem?_eq_some_iff.mp this).1
    rw [h.len] at this
    exact this
/-- a step can be undone -/
theorem Mv.und {n : Nat} {st : Stp} {a b : Th} (hp : ∀ ps, st = .ord ps → Pm n ps) (h : Mv ws st a b) : Mv ws (und st) b a := by
  cases st with
  | op p s => exact h
  | cl p s => exact h
  | ord ps => exact ⟨h.1.symm, (hp ps rfl).inv.nd, (hp ps rfl).inv_at h.2.2⟩
theorem RkMv.und {st : Stp} {r r' : List Nat} (h : RkMv ws st r r') : RkMv ws (und st) r' r := by
  cases st with
  | op p s => exact h
  | cl p s => exact h
  | ord ps =>
    obtain ⟨h1, e⟩ := h
    have hl : r'.length = r.length := by rw [e, List.length_map, h1.len]
    refine ⟨by rw [hl]; exact h1.inv, ?_⟩
    apply List.ext_getElem?
    intro i
    rw [List.getElem?_map]
    by_cases hi : i < r.length
    · obtain ⟨j, hj⟩ := List.getElem?_of_mem (h1.mem hi)
      rw [h1.inv_at hj, e]
      show r[i]? = some ((ps.map fun p => r.getD p 0).getD j 0)
      rw [List.getD_eq_getElem?_getD, List.getElem?_map, hj]
      show r[i]? = some (r.getD i 0)
      rw [List.getD_eq_getElem?_getD, List.getElem?_eq_getElem hi]
      rfl
    · rw [List.getElem?_eq_none (by omega), List.getElem?_eq_none (by rw [inv_length, h1.len]; omega)]
      rfl
theorem Run.und {r r' : List Nat} {sts : List Stp} (h : Run ws r sts r') : RkOk r → Run ws r' (sts.reverse.map und) r ∧ RkOk r' := by
  induction h with
  | nil => intro k; exact ⟨.nil, k⟩
  | cons a b c ih =>
    intro k
    rw [List.reverse_cons, List.map_append]
    exact ⟨(ih b).1.append (.cons a.und k .nil), (ih b).2⟩
/-- the places of the orders are those of racks -/
theorem MvRun.und {r r' : List Nat} {sts : List Stp} (h : Run ws r sts r') : ∀ {t u : Th}, MvRun ws t sts u → MvRun ws u (sts.reverse.map und) t := by
  induction h with
  | nil => intro t u k; cases k; exact .nil
  | @cons r r' r'' st sts a b c ih =>
    intro t u k
    cases k with
    | cons k1 k2 =>
      rw [List.reverse_cons, List.map_append]
      refine (ih k2).append (.cons (Mv.und (n := r.length) (fun ps e => ?_) k1) .nil)
      subst e
      exact a.1
theorem OpMv.wf {p s : Nat} {a b : Th} (h : OpMv ws p s a b) : a.f.wf ws ↔ b.f.wf ws := by
  rcases h with ⟨_, _, h⟩ | ⟨_, _, h⟩ | ⟨_, m, h, _⟩
  · rw [h]
  · rw [h]
  · exact ⟨h.wf, h.wf_inv⟩
theorem Mv.wf {st : Stp} {a b : Th} (h : Mv ws st a b) : a.f.wf ws ↔ b.f.wf ws := by
  cases st with
  | op p s => exact OpMv.wf h
  | cl p s => exact (OpMv.wf h).symm
  | ord ps => rw [h.1]
theorem OpMv.holes {p s : Nat} {a b : Th} (h : OpMv ws p s a b) : b.f.holes = a.f.holes := by
  rcases h with ⟨_, _, h⟩ | ⟨_, _, h⟩ | ⟨_, m, h, _⟩
  · rw [h]
  · rw [h]
  · exact h.holes
theorem Mv.holes {st : Stp} {a b : Th} (h : Mv ws st a b) : b.f.holes = a.f.holes := by
  cases st with
  | op p s => exact OpMv.holes h
  | cl p s => exact (OpMv.holes h).symm
  | ord ps => rw [h.1]
theorem Mv.full {st : Stp} {a b : Th} (pl : plain st) (h : Mv ws st a b) (hf : a.f.full) : b.f.full := by
  cases st with
  | op p s =>
    rcases h with ⟨_, _, h⟩ | ⟨_, _, h⟩ | ⟨_, m, h, _⟩
    · rw [h]; exact hf
    · rw [h]; exact hf
    · exact h.full hf
  | cl p s => exact pl.elim
  | ord ps => rw [← h.1]; exact hf
theorem OpRk.at_ {p s : Nat} {r r' : List Nat} (h : OpRk ws p s r r') : (∀ i, i < p → r'[i]? = r[i]?) ∧ (∀ i, p < i → r'[i + ws.length - 1]? = r[i]?) ∧ (∃ m, r[p]? = some m ∧ s < m ∧ ∀ k w, ws[k]? = some w → r'[p + k]? = some (m - 1 + w)) := by
  obtain ⟨A, m, Z, rfl, rfl, hs, rfl⟩ := h
  refine ⟨fun i hi => ?_, fun i hi => ?_, m, ?_, hs, fun k w hk => ?_⟩
  · rw [List.getElem?_append_left hi, List.getElem?_append_left hi]
  · rw [List.getElem?_append_right (by omega), List.getElem?_append_right (by rw [List.length_map]; omega), List.getElem?_append_right (by omega), List.length_map]
    obtain ⟨j, rfl⟩ : ∃ j, i = A.length + (j + 1) := ⟨i - A.length - 1, by omega⟩
    rw [show A.length + (j + 1) - A.length = j + 1 by omega, List.getElem?_cons_succ]
    congr 1
    omega
  · rw [List.getElem?_append_right (Nat.le_refl _), Nat.sub_self]; rfl
  · have hk2 := (List.getElem?_eq_some_iff.mp hk).1
    rw [List.getElem?_append_right (by omega), Nat.add_sub_cancel_left, List.getElem?_append_left (by rw [List.length_map]; exact hk2), List.getElem?_map, hk]
    rfl
theorem ThP.op {p s : Nat} {r r' : List Nat} {a b : Th} (ha : ThP ws r a) (h0 : 0 < ws.length) (hr : OpRk ws p s r r') (h : OpMv ws p s a b) : ThP ws r' b := by
  obtain ⟨h1, h2, m, h3, h4, h5⟩ := hr.at_
  refine ⟨(OpMv.wf h).mp ha.1, ?_⟩
  rcases h with ⟨k1, k2, k3⟩ | ⟨k1, k2, k3⟩ | ⟨k1, m', k2, k3⟩
  · rw [k2, k3, h1 _ k1, ha.2]
  · rw [k2, k3, ← ha.2, ← h2 _ k1]
    congr 1
    omega
  · obtain ⟨w, e1, e2, _⟩ := k2.len
    rw [k3, h5 m' w e1]
    have := ha.2
    rw [k1, h3] at this
    have := Option.some.inj this
    congr 1
    omega
theorem ThP.step {st : Stp} {r r' : List Nat} {a b : Th} (ha : ThP ws r a) (h0 : 0 < ws.length) (pl : plain st) (hr : RkMv ws st r r') (h : Mv ws st a b) : ThP ws r' b := by
  cases st with
  | op p s => exact ha.op h0 hr h
  | cl p s => exact pl.elim
  | ord ps =>
    obtain ⟨h1, rfl⟩ := hr
    refine ⟨by rw [← h.1]; exact ha.1, ?_⟩
    rw [List.getElem?_map, h.2.2]
    show some (r.getD a.at_ 0) = _
    rw [List.getD_eq_getElem?_getD, ha.2, ← h.1]
    rfl
theorem Mv.ex {st : Stp} {r r' : List Nat} {a : Th} (pl : plain st) (ha : ThP ws r a) (hr : RkMv ws st r r') (hh : ∀ p s, st = .op p s → a.at_ = p → a.f.holeAt s = none) : ∃ b, Mv ws st a b := by
  cases st with
  | op p s =>
    rcases Nat.lt_trichotomy a.at_ p with h | h | h
    · exact ⟨a, .inl ⟨h, rfl, rfl⟩⟩
    · obtain ⟨_, _, m, h3, h4, _⟩ := OpRk.at_ hr
      have h5 := ha.2
      rw [h, h3] at h5
      have := Option.some.inj h5
      obtain ⟨m', g, q⟩ := Op.ex ha.1 (by omega) (hh p s rfl h)
      exact ⟨⟨p + m', g⟩, .inr (.inr ⟨h, m', q, rfl⟩)⟩
    · exact ⟨⟨_, _⟩, .inr (.inl ⟨h, rfl, rfl⟩)⟩
  | cl p s => exact pl.elim
  | ord ps =>
    obtain ⟨h1, _⟩ := hr
    have hi : a.at_ < r.length := (List.getElem?_eq_some_iff.mp ha.2).1
    obtain ⟨j, hj⟩ := List.getElem?_of_mem (h1.mem hi)
    exact ⟨⟨j, a.f⟩, rfl, h1.nd, hj⟩
theorem MvRun.ex (h0 : 0 < ws.length) {r r' : List Nat} {sts : List Stp} (h : Run ws r sts r') : ∀ {a : Th}, (∀ st ∈ sts, plain st) → ThP ws r a → a.f.full → ∃ b, MvRun ws a sts b ∧ ThP ws r' b ∧ b.f.full := by
  induction h with
  | nil => intro a _ h1 h2; exact ⟨a, .nil, h1, h2⟩
  | @cons r r' r'' st sts x y z ih =>
    intro a pl h1 h2
    have p1 := pl st (List.mem_cons_self ..)
    obtain ⟨b, hb⟩ := Mv.ex p1 h1 x fun p s _ _ => full_holeAt h2
    obtain ⟨c, hc, q1, q2⟩ := ih (fun s hs => pl s (List.mem_cons_of_mem _ hs)) (h1.step h0 p1 x hb) (hb.full p1 h2)
    exact ⟨c, .cons hb hc, q1, q2⟩
end BA

set_option maxHeartbeats 4000000
namespace BA
open Fo
/-! plain mathematics: tables -/
def hop : Stp → Th → Option Nat
  | .op p s, t => if p = t.at_ then t.f.holeAt s else none
  | _, _ => none
def gr (ws : List Nat) (k m : Nat) (t : Th) : Th := ⟨t.at_, t.f.grow k m (ws.getD m 0)⟩
def part (ws : List Nat) (st : Stp) (r : Th × Th) : List (Th × Th) := match hop st r.2 with
  | none => [r]
  | some k => (List.range ws.length).map fun m => (gr ws k m r.1, gr ws k m r.2)
open Classical in
noncomputable def mvC (ws : List Nat) (st : Stp) (b : Th) : Th := if h : ∃ c, Mv ws st b c then Classical.choose h else b
noncomputable def behind1 (ws : List Nat) (st : Stp) (r : Th × Th) : List (Th × Th) := (part ws st r).map fun q => (q.1, mvC ws st q.2)
noncomputable def behind (ws : List Nat) (st : Stp) (rows : List (Th × Th)) : List (Th × Th) := rows.flatMap (behind1 ws st)
structure RowOk (ws : List Nat) (st : Stp) (r : Th × Th) : Prop where
  wf1 : r.1.f.wf ws
  wf2 : r.2.f.wf ws
  slot : ∀ p s, st = .op p s → r.2.at_ = p → s < r.2.f.len
  hol : r.1.f.holes = r.2.f.holes
  ex : ∀ q ∈ part ws st r, ∃ c, Mv ws st q.2 c
  sz1 : r.1.f.code.length ≤ 900
  sz2 : r.2.f.code.length ≤ 900
inductive Tab (ws : List Nat) : List (Th × Th) → List Stp → List (Th × Th) → Prop
  | nil {rows} : Tab ws rows [] rows
  | cons {rows st sts out} : (∀ r ∈ rows, RowOk ws st r) → (behind ws st rows).length ≤ 400 → Tab ws (behind ws st rows) sts out → Tab ws rows (st :: sts) out
variable {ws : List Nat}
theorem mvC_ok {st : Stp} {b : Th} (h : ∃ c, Mv ws st b c) : Mv ws st b (mvC ws st b) := by
  unfold mvC
  rw [dif_pos h]
  exact Classical.choose_spec h
theorem Mv.det {st : Stp} {a b c : Th} (h : Mv ws st a b) (h' : Mv ws st a c) : b = c := by
  cases st with
  | op p s => exact OpMv.det (ws := ws) h h'
  | cl p s => exact OpMv.inj h h'
  | ord ps =>
    obtain ⟨h1, h2, h3⟩ := h
    obtain ⟨k1, k2, k3⟩ := h'
    exact Th.ext' (getElem?_inj h2 h3 k3) (h1.symm.trans k1)
theorem MvRun.det {a b c : Th} {sts : List Stp} (h : MvRun ws a sts b) : MvRun ws a sts c → b = c := by
  induction h with
  | nil => intro k; cases k; rfl
  | cons x _ ih => intro k; cases k with | cons y z => exact ih (x.det y ▸ z)
theorem MvRun.holes {a b : Th} {sts : List Stp} (h : MvRun ws a sts b) : b.f.holes = a.f.holes := by
  induction h with
  | nil => rfl
  | cons x _ ih => rw [ih, x.holes]
theorem MvRun.wf {a b : Th} {sts : List Stp} (h : MvRun ws a sts b) : a.f.wf ws ↔ b.f.wf ws := by
  induction h with
  | nil => exact Iff.rfl
  | cons x _ ih => exact x.wf.trans ih
def isOp : Stp → Prop
  | .op _ _ => True
  | _ => False
theorem isOp.plain {st : Stp} (h : isOp st) : plain st := by
  cases st with
  | op _ _ => trivial
  | cl _ _ => exact h.elim
  | ord _ => exact h.elim
theorem Mv.codeLe {ws : List Nat} {st : Stp} {a b : Th} (pl : plain st) (h : Mv ws st a b) : b.f.code.length ≤ a.f.code.length := by
  cases st with
  | cl p s => exact pl.elim
  | ord ps => rw [h.1]; exact Nat.le_refl _
  | op p s =>
    rcases h with ⟨_, _, h⟩ | ⟨_, _, h⟩ | ⟨_, m, h, _⟩
    · rw [h]; exact Nat.le_refl _
    · rw [h]; exact Nat.le_refl _
    · obtain ⟨A, Z, e1, e2, _⟩ := h.code
      rw [e1, e2]
      simp
theorem MvRun.codeLe {ws : List Nat} {sts : List Stp} {a b : Th} (h : MvRun ws a sts b) : (∀ st ∈ sts, plain st) → b.f.code.length ≤ a.f.code.length := by
  induction h with
  | nil => intro _; exact Nat.le_refl _
  | cons x _ ih => intro pl; exact Nat.le_trans (ih fun s hs => pl s (List.mem_cons_of_mem _ hs)) (x.codeLe (pl _ (List.mem_cons_self ..)))
theorem OpMv.gr {p s k m : Nat} {a b : Th} (h : OpMv ws p s a b) : OpMv ws p s (gr ws k m a) (gr ws k m b) := by
  rcases h with ⟨h1, h2, h3⟩ | ⟨h1, h2, h3⟩ | ⟨h1, m', h2, h3⟩
  · exact .inl ⟨h1, h2, by unfold BA.gr; rw [h3]⟩
  · exact .inr (.inl ⟨h1, h2, by unfold BA.gr; rw [h3]⟩)
  · exact .inr (.inr ⟨h1, m', h2.grow, h3⟩)
theorem MvRun.gr {k m : Nat} {a b : Th} {sts : List Stp} (h : MvRun ws a sts b) : (∀ st ∈ sts, isOp st) → MvRun ws (gr ws k m a) sts (gr ws k m b) := by
  induction h with
  | nil => intro _; exact .nil
  | @cons t t' t'' st sts x _ ih =>
    intro ho
    refine .cons ?_ (ih fun s hs => ho s (List.mem_cons_of_mem _ hs))
    cases st with
    | op p s => exact OpMv.gr x
    | cl p s => exact (ho _ (List.mem_cons_self ..)).elim
    | ord ps => exact (ho _ (List.mem_cons_self ..)).elim
theorem Mv.grD {ws : List Nat} {m : Nat} (h : m < ws.length) : ws[m]? = some (ws.getD m 0) := by
  rw [List.getD_eq_getElem?_getD, List.getElem?_eq_getElem h]; rfl
structure Inv (ws rk : List Nat) (N : Nat) (done : List Stp) (rows : List (Th × Th)) : Prop where
  nd : (rows.map fun q => q.2.at_).Nodup
  run : ∀ q ∈ rows, MvRun ws q.1 done q.2 ∧ q.1.f.wf ws ∧ ThP ws rk q.2 ∧ q.1.at_ < N
  ops : ∀ st ∈ done, isOp st
  sz : ∀ q ∈ rows, q.1.f.code.length ≤ 10 + 4 * done.length
theorem hop_op {p s : Nat} {t : Th} : hop (.op p s) t = if p = t.at_ then t.f.holeAt s else none := rfl
theorem flat_one {α β : Type} (f : α → β) : ∀ l : List α, (l.flatMap fun a => [f a]) = l.map f
  | [] => rfl
  | a :: l => by rw [List.flatMap_cons, flat_one f l]; rfl
theorem MvRun.nil_eq {a b : Th} (h : MvRun ws a [] b) : a = b := by cases h; rfl
/-- what a parted row is -/
theorem part_cases {p s : Nat} {r q : Th × Th} (h : q ∈ part ws (.op p s) r) : (hop (.op p s) r.2 = none ∧ q = r) ∨ ∃ k m, p = r.2.at_ ∧ r.2.f.holeAt s = some k ∧ m < ws.length ∧ q = (gr ws k m r.1, gr ws k m r.2) := by
  unfold part at h
  cases e : hop (.op p s) r.2 with
  | none =>
    rw [e] at h
    exact .inl ⟨rfl, List.mem_singleton.mp h⟩
  | some k =>
    rw [e] at h
    obtain ⟨m, hm, rfl⟩ := List.mem_map.mp h
    rw [hop_op] at e
    split at e
    · rename_i e2
      exact .inr ⟨k, m, e2, e, List.mem_range.mp hm, rfl⟩
    · cases e
theorem hop_none {p s : Nat} {t : Th} (h : hop (.op p s) t = none) (e : t.at_ = p) : t.f.holeAt s = none := by
  rw [hop_op, if_pos e.symm] at h
  exact h
theorem grow_sz {m w k : Nat} : ∀ f : Fo, (f.grow k m w).code.length ≤ f.code.length + w := fun f => by
  by_cases h : k < f.holes
  · obtain ⟨A, Z, e1, e2, e3⟩ := grow_code (m := m) (w := w) h
    rw [e3, e1]
    simp only [List.length_append, List.length_cons, List.length_replicate]
    omega
  · have e : ∀ {f : Fo} {k : Nat}, ¬ k < f.holes → f.grow k m w = f := fun {f} => by
      induction f with
      | nil => intro k _; rfl
      | hole r ih =>
        intro k h
        cases k with
        | zero => exact absurd (Nat.succ_pos _) h
        | succ k => rw [grow_holeS, ih fun z => h (Nat.succ_lt_succ z)]
      | node j cs r ih1 ih2 =>
        intro k h
        rw [holes_node] at h
        rw [grow_out (by omega), ih2 (by omega)]
    rw [e h]
    omega
theorem Inv.step (h0 : 0 < ws.length) (h4 : ∀ w ∈ ws, w ≤ 4) {rk rk' : List Nat} {N p s : Nat} {done : List Stp} {rows : List (Th × Th)} (hd : done.length ≤ 100) (I : Inv ws rk N done rows) (hr : OpRk ws p s rk rk') :
    (∀ r ∈ rows, RowOk ws (.op p s) r) ∧ Inv ws rk' N (done ++ [.op p s]) (behind ws (.op p s) rows) := by
  have ex : ∀ r ∈ rows, ∀ q ∈ part ws (.op p s) r, MvRun ws q.1 done q.2 ∧ q.1.f.wf ws ∧ ThP ws rk q.2 ∧ q.1.at_ < N ∧ q.2.at_ = r.2.at_ ∧ (∃ c, Mv ws (.op p s) q.2 c) ∧ q.1.f.code.length ≤ 10 + 4 * done.length + 4 := by
    intro r hr1 q hq
    obtain ⟨i1, i2, i3, i4⟩ := I.run r hr1
    rcases part_cases hq with ⟨e, rfl⟩ | ⟨k, m, e1, e2, hm, rfl⟩
    · exact ⟨i1, i2, i3, i4, rfl, Mv.ex trivial i3 hr (fun p' s' e3 e4 => by cases e3; exact hop_none e e4), by have := I.sz _ hr1; omega⟩
    · have hw := Mv.grD hm
      refine ⟨i1.gr I.ops, grow_wf hw i2, ⟨grow_wf hw i3.1, ?_⟩, i4, rfl, ?_, ?_⟩
      · rw [show (gr ws k m r.2).f.len = r.2.f.len from grow_len]; exact i3.2
      · obtain ⟨g, hg⟩ := Op.grown hw e2
        exact ⟨⟨p + m, g⟩, .inr (.inr ⟨e1.symm, m, hg, rfl⟩)⟩
      · have s1 := I.sz r hr1
        have s2 := grow_sz (m := m) (w := ws.getD m 0) (k := k) r.1.f
        have s3 := h4 _ (List.mem_of_getElem? hw)
        show (r.1.f.grow k m (ws.getD m 0)).code.length ≤ _
        omega
  refine ⟨fun r hr1 => ?_, ?_, fun q hq => ?_, fun st hst => ?_, fun q hq => ?_⟩
  · obtain ⟨i1, i2, i3, i4⟩ := I.run r hr1
    have s1 := I.sz r hr1
    have s2 := i1.codeLe fun st hst => (I.ops st hst).plain
    refine ⟨i2, i3.1, fun p' s' e1 e2 => ?_, i1.holes.symm, fun q hq => (ex r hr1 q hq).2.2.2.2.2.1, by omega, by omega⟩
    cases e1
    obtain ⟨_, _, m, h3, h4, _⟩ := OpRk.at_ hr
    have h5 := i3.2
    rw [e2, h3] at h5
    have := Option.some.inj h5
    omega
  · unfold behind
    rw [List.map_flatMap]
    refine List.pairwise_flatMap.mpr ⟨fun r hr1 => ?_, ?_⟩
    · unfold behind1
      rw [List.map_map]
      unfold part
      cases e : hop (.op p s) r.2 with
      | none => exact List.pairwise_singleton _ _
      | some k =>
        show List.Pairwise _ (List.map _ (List.map _ (List.range ws.length)))
        rw [List.map_map]
        rw [hop_op] at e
        split at e
        · rename_i e1
          have he : ∀ m, m < ws.length → (mvC ws (.op p s) (gr ws k m r.2)).at_ = p + m := fun m hm => by
            have hw := Mv.grD hm
            obtain ⟨g, hg⟩ := Op.grown hw e
            have q1 : Mv ws (.op p s) (gr ws k m r.2) ⟨p + m, g⟩ := .inr (.inr ⟨e1.symm, m, hg, rfl⟩)
            rw [← (mvC_ok ⟨_, q1⟩).det q1 |>.symm]
          have e3 : (List.range ws.length).map (((fun q : Th × Th => q.2.at_) ∘ fun q : Th × Th => (q.1, mvC ws (.op p s) q.2)) ∘ fun m => (gr ws k m r.1, gr ws k m r.2)) = (List.range ws.length).map (p + ·) :=
            List.map_congr_left fun m hm => he m (List.mem_range.mp hm)
          rw [e3]
          exact List.Pairwise.map (R := (· ≠ ·)) _ (fun a b (z : a ≠ b) y => z (by omega)) List.nodup_range
        · cases e
    · have nd := List.pairwise_map.mp I.nd
      refine List.Pairwise.imp_of_mem ?_ nd
      intro r1 r2 m1 m2 ne x hx y hy e
      subst e
      obtain ⟨q1, hq1, e1⟩ := List.mem_map.mp hx
      obtain ⟨q2, hq2, e2⟩ := List.mem_map.mp hy
      obtain ⟨b1, hb1, rfl⟩ := List.mem_map.mp hq1
      obtain ⟨b2, hb2, rfl⟩ := List.mem_map.mp hq2
      have z1 := ex r1 m1 b1 hb1
      have z2 := ex r2 m2 b2 hb2
      have c1 := mvC_ok z1.2.2.2.2.2.1
      have c2 := mvC_ok z2.2.2.2.2.2.1
      have a1 := z1.2.2.2.2.1
      have a2 := z2.2.2.2.2.1
      have e1 : (mvC ws (.op p s) b1.2).at_ = x := e1
      have e2 : (mvC ws (.op p s) b2.2).at_ = x := e2
      apply ne
      rcases c1 with ⟨h1, h2, h3⟩ | ⟨h1, h2, h3⟩ | ⟨h1, m, h2, h3⟩ <;> rcases c2 with ⟨k1, k2, k3⟩ | ⟨k1, k2, k3⟩ | ⟨k1, m', k2, k3⟩
      all_goals first
        | omega
        | (have := h2.lt; omega)
        | (have := k2.lt; omega)
  · obtain ⟨r, hr1, hq1⟩ := List.mem_flatMap.mp hq
    obtain ⟨b, hb, rfl⟩ := List.mem_map.mp hq1
    obtain ⟨z1, z2, z3, z4, z5, z6, z7⟩ := ex r hr1 b hb
    have c := mvC_ok z6
    exact ⟨z1.append (.cons c .nil), z2, z3.step (st := .op p s) h0 trivial hr c, z4⟩
  · rcases List.mem_append.mp hst with z | z
    · exact I.ops st z
    · rw [List.mem_singleton.mp z]; trivial
  · obtain ⟨r, hr1, hq1⟩ := List.mem_flatMap.mp hq
    obtain ⟨b, hb, rfl⟩ := List.mem_map.mp hq1
    obtain ⟨z1, z2, z3, z4, z5, z6, z7⟩ := ex r hr1 b hb
    rw [List.length_append]
    show b.1.f.code.length ≤ 10 + 4 * (done.length + 1)
    omega
theorem Inv.len {rk : List Nat} {N : Nat} {done : List Stp} {rows : List (Th × Th)} (I : Inv ws rk N done rows) : rows.length ≤ rk.length := by
  have := nodup_len (n := rk.length) I.nd fun p hp => by
    obtain ⟨q, hq, rfl⟩ := List.mem_map.mp hp
    exact (List.getElem?_eq_some_iff.mp (I.run q hq).2.2.1.2).1
  rwa [List.length_map] at this
theorem tab_fwd (h0 : 0 < ws.length) (h4 : ∀ w ∈ ws, w ≤ 4) {A B : List Stp} {Pf : List (Th × Th) → Prop} {rk r' : List Nat} (h : Run ws rk A r') : ∀ {N : Nat} {done : List Stp} {rows : List (Th × Th)}, (∀ st ∈ A, isOp st) → done.length + A.length ≤ 100 → Inv ws rk N done rows →
    (∀ rows', Inv ws r' N (done ++ A) rows' → ∃ out, Tab ws rows' B out ∧ Pf out) → ∃ out, Tab ws rows (A ++ B) out ∧ Pf out := by
  induction h with
  | nil => intro N done rows _ _ I k; exact k rows (by rw [List.append_nil]; exact I)
  | @cons r r1 r2 st sts a b c ih =>
    intro N done rows ho hd I k
    rw [List.length_cons] at hd
    cases st with
    | op p s =>
      obtain ⟨ro, I2⟩ := I.step h0 h4 (by omega) a
      obtain ⟨out, t, pf⟩ := ih (fun s hs => ho s (List.mem_cons_of_mem _ hs)) (by rw [List.length_append]; show done.length + 1 + _ ≤ _; omega) I2 fun rows' I3 => k rows' (by rw [List.append_assoc] at I3; exact I3)
      exact ⟨out, .cons ro (Nat.le_trans I2.len b.1) t, pf⟩
    | cl p s => exact (ho _ (List.mem_cons_self ..)).elim
    | ord ps => exact (ho _ (List.mem_cons_self ..)).elim
theorem tab_bwd {n : Nat} : ∀ (L : List Stp) {rows : List (Th × Th)}, (∀ st ∈ L, plain st) → (∀ ps, Stp.ord ps ∈ L → ∃ n, Pm n ps) → rows.length ≤ 400 → (∀ q ∈ rows, MvRun ws q.1 L.reverse q.2 ∧ q.1.f.wf ws ∧ q.1.f.code.length ≤ 900) →
    ∃ out, Tab ws rows (L.map und) out ∧ ∀ q ∈ out, q.1 = q.2
  | [], rows, _, _, _, h => ⟨rows, .nil, fun q hq => (h q hq).1.nil_eq⟩
  | st :: L, rows, pl, pm, hl, h => by
    have hn : ∀ t, hop (und st) t = none := fun t => by
      cases st with
      | op p s => rfl
      | cl p s => exact (pl _ (List.mem_cons_self ..)).elim
      | ord ps => rfl
    have hp : ∀ r, part ws (und st) r = [r] := fun r => by unfold part; rw [hn]
    have key : ∀ q ∈ rows, ∃ u, MvRun ws q.1 L.reverse u ∧ Mv ws (und st) q.2 u := fun q hq => by
      have h1 := (h q hq).1
      rw [List.reverse_cons] at h1
      obtain ⟨u, x, y⟩ := h1.split
      refine ⟨u, x, ?_⟩
      cases st with
      | op p s => exact y.one
      | cl p s => exact y.one
      | ord ps =>
        obtain ⟨n, hpm⟩ := pm ps (List.mem_cons_self ..)
        exact Mv.und (n := n) (fun ps' e => by cases e; exact hpm) y.one
    have e2 : behind ws (und st) rows = rows.map fun q => (q.1, mvC ws (und st) q.2) := by
      unfold behind behind1
      simp only [hp]
      exact flat_one _ rows
    obtain ⟨out, t, pf⟩ := tab_bwd (n := n) L (rows := rows.map fun q => (q.1, mvC ws (und st) q.2)) (fun s hs => pl s (List.mem_cons_of_mem _ hs)) (fun ps hps => pm ps (List.mem_cons_of_mem _ hps)) (by rw [List.length_map]; exact hl) fun q hq => by
      obtain ⟨q0, hq0, rfl⟩ := List.mem_map.mp hq
      obtain ⟨u, x, y⟩ := key q0 hq0
      have e := (mvC_ok ⟨u, y⟩).det y
      exact ⟨by show MvRun ws q0.1 L.reverse (mvC ws (und st) q0.2); rw [e]; exact x, (h q0 hq0).2⟩
    refine ⟨out, .cons (fun r hr => ?_) (by rw [e2, List.length_map]; exact hl) (by rw [e2]; exact t), pf⟩
    obtain ⟨u, x, y⟩ := key r hr
    have h1 := h r hr
    refine ⟨h1.2.1, h1.1.wf.mp h1.2.1, fun p s e => ?_, h1.1.holes.symm, fun q hq => ?_, h1.2.2, Nat.le_trans (h1.1.codeLe fun s hs => pl s (List.mem_reverse.mp hs)) h1.2.2⟩
    · cases st with
      | op p s => cases e
      | cl p s => exact (pl _ (List.mem_cons_self ..)).elim
      | ord ps => cases e
    · rw [hp, List.mem_singleton] at hq
      rw [hq]
      exact ⟨u, y⟩
end BA

set_option maxHeartbeats 4000000
namespace BA
open Fo
/-! plain mathematics: the ways -/
variable {ws : List Nat}
/-- two ways that are the same -/
structure Pair (ws r : List Nat) (A B : List Stp) (r' : List Nat) : Prop where
  ra : Run ws r A r'
  rb : Run ws r B r'
  opsA : ∀ st ∈ A, isOp st
  plB : ∀ st ∈ B, plain st
  agree : ∀ t u, t.at_ < r.length → MvRun ws t A u → MvRun ws t B u
theorem Run.pm {r r' : List Nat} {sts : List Stp} (h : Run ws r sts r') : ∀ {ps : List Nat}, Stp.ord ps ∈ sts → ∃ n, Pm n ps := by
  induction h with
  | nil => intro ps h; cases h
  | cons a _ _ ih =>
    intro ps h
    rcases List.mem_cons.mp h with rfl | h
    · exact ⟨_, a.1⟩
    · exact ih h
def rows0 (r : List Nat) : List (Th × Th) := r.zipIdx.map fun q => (⟨q.2, allHoles q.1⟩, ⟨q.2, allHoles q.1⟩)
theorem rows0_mem {r : List Nat} {q : Th × Th} (h : q ∈ rows0 r) : q.1 = q.2 ∧ q.1.f.wf ws ∧ r[q.1.at_]? = some q.1.f.len := by
  obtain ⟨z, hz, rfl⟩ := List.mem_map.mp h
  have := List.mem_zipIdx_iff_getElem?.mp hz
  exact ⟨rfl, wf_allHoles _, by show r[z.2]? = some (allHoles z.1).len; rw [len_allHoles]; exact this⟩
theorem rows0_at (r : List Nat) : (rows0 r).map (fun q => q.2.at_) = List.range r.length := by
  unfold rows0
  rw [List.map_map]
  show r.zipIdx.map (fun q => q.2) = _
  rw [List.zipIdx_map_snd, List.range_eq_range']
theorem rows0_length (r : List Nat) : (rows0 r).length = r.length := by unfold rows0; rw [List.length_map, List.length_zipIdx]
theorem Pair.tab {r r' : List Nat} {A B : List Stp} (h : Pair ws r A B r') (h0 : 0 < ws.length) (h4 : ∀ w ∈ ws, w ≤ 4) (hA : A.length ≤ 100) (hr : RkOk r) (hr5 : ∀ x ∈ r, x ≤ 10) : ∃ out, Tab ws (rows0 r) (A ++ B.reverse.map und) out ∧ ∀ q ∈ out, q.1 = q.2 := by
  refine tab_fwd h0 h4 h.ra (N := r.length) (done := []) h.opsA (by show 0 + A.length ≤ 100; omega) ⟨by rw [rows0_at]; exact List.nodup_range, fun q hq => ?_, fun _ h => (by cases h), fun q hq => ?_⟩ fun rows' I => ?_
  · obtain ⟨e, h1, h2⟩ := rows0_mem (ws := ws) hq
    refine ⟨by rw [e]; exact .nil, h1, ⟨by rw [← e]; exact h1, by rw [← e]; exact h2⟩, (List.getElem?_eq_some_iff.mp h2).1⟩
  · obtain ⟨z, hz, rfl⟩ := List.mem_map.mp hq
    show (allHoles z.1).code.length ≤ 10 + 4 * 0
    rw [code_allHoles, List.length_replicate]
    exact hr5 z.1 (List.mem_of_getElem? (List.mem_zipIdx_iff_getElem?.mp hz))
  · refine tab_bwd (n := 0) B.reverse (fun st hst => h.plB st (List.mem_reverse.mp hst)) (fun ps hps => h.rb.pm (List.mem_reverse.mp hps)) (Nat.le_trans I.len ?_) fun q hq => ?_
    · exact (h.ra.und hr).2.1
    · obtain ⟨i1, i2, i3, i4⟩ := I.run q hq
      rw [List.reverse_reverse]
      have s1 := I.sz q hq
      rw [List.nil_append] at s1
      exact ⟨h.agree _ _ i4 i1, i2, by omega⟩
/-! a row of openings -/
def down (place : Nat) (f : Nat → Nat) : Nat → List Stp
  | 0 => []
  | k + 1 => .op (place + k) (f k) :: down place f k
theorem down_op {place : Nat} {f : Nat → Nat} : ∀ {k : Nat} {st : Stp}, st ∈ down place f k → isOp st
  | k + 1, st, h => by
    rcases List.mem_cons.mp h with rfl | h
    · trivial
    · exact down_op h
theorem down_mk_lt {place : Nat} {f : Nat → Nat} {t : Th} (h : t.at_ < place) : ∀ k, MvRun ws t (down place f k) t
  | 0 => .nil
  | k + 1 => .cons (.inl ⟨by omega, rfl, rfl⟩) (down_mk_lt h k)
theorem down_mk_ge {place : Nat} {f : Nat → Nat} : ∀ {k : Nat} {t : Th}, place + k ≤ t.at_ → MvRun ws t (down place f k) ⟨t.at_ + k * (ws.length - 1), t.f⟩
  | 0, t, _ => by rw [Nat.zero_mul]; exact .nil
  | k + 1, t, h => by
    refine .cons (t' := ⟨t.at_ + (ws.length - 1), t.f⟩) (.inr (.inl ⟨by omega, rfl, rfl⟩)) ?_
    have q := down_mk_ge (place := place) (f := f) (k := k) (t := ⟨t.at_ + (ws.length - 1), t.f⟩) (by show place + k ≤ t.at_ + _; omega)
    have e : t.at_ + (k + 1) * (ws.length - 1) = t.at_ + (ws.length - 1) + k * (ws.length - 1) := by rw [Nat.succ_mul]; omega
    rw [e]
    exact q
theorem fin_at (place a b n : Nat) (h : a < n) : place + a + b + a * (n - 1) = place + a * n + b := by
  obtain ⟨c, rfl⟩ : ∃ c, n = c + 1 := ⟨n - 1, by omega⟩
  rw [Nat.add_sub_cancel, Nat.mul_add]
  omega
theorem down_mk_in {place : Nat} {f : Nat → Nat} : ∀ {k : Nat} {t : Th} {m1 m2 : Nat} {h : Fo}, t.at_ = place + m1 → m1 < k → k ≤ ws.length → Op ws (f m1) t.f m2 h → MvRun ws t (down place f k) ⟨place + m1 * ws.length + m2, h⟩
  | 0, _, _, _, _, _, h, _, _ => by cases h
  | k + 1, t, m1, m2, h, e, lt, le, o => by
    by_cases z : m1 = k
    · subst z
      refine .cons (t' := ⟨place + m1 + m2, h⟩) (.inr (.inr ⟨e, m2, o, rfl⟩)) ?_
      have q := down_mk_ge (ws := ws) (place := place) (f := f) (k := m1) (t := ⟨place + m1 + m2, h⟩) (by show place + m1 ≤ place + m1 + m2; omega)
      rw [show place + m1 * ws.length + m2 = place + m1 + m2 + m1 * (ws.length - 1) from (fin_at place m1 m2 ws.length (by omega)).symm]
      exact q
    · exact .cons (t' := t) (.inl ⟨by omega, rfl, rfl⟩) (down_mk_in e (by omega) (by omega) o)
theorem down_inv_in {place : Nat} {f : Nat → Nat} : ∀ {k : Nat} {t u : Th} {m1 : Nat}, t.at_ = place + m1 → m1 < k → k ≤ ws.length → MvRun ws t (down place f k) u → ∃ m2 h, Op ws (f m1) t.f m2 h ∧ u = ⟨place + m1 * ws.length + m2, h⟩
  | 0, _, _, _, _, h, _, _ => by cases h
  | k + 1, t, u, m1, e, lt, le, r => by
    cases r with
    | @cons _ t' _ _ _ a b =>
      by_cases z : m1 = k
      · subst z
        rcases a with ⟨h1, _, _⟩ | ⟨h1, _, _⟩ | ⟨h1, m2, h2, h3⟩
        · omega
        · omega
        · refine ⟨m2, t'.f, h2, ?_⟩
          have q := down_mk_ge (ws := ws) (place := place) (f := f) (k := m1) (t := t') (by omega)
          rw [b.det q]
          refine Th.ext' ?_ rfl
          show t'.at_ + _ = place + m1 * ws.length + m2
          rw [h3]
          exact fin_at place m1 m2 ws.length (by omega)
      · rcases a with ⟨h1, h2, h3⟩ | ⟨h1, _, _⟩ | ⟨h1, _⟩
        · have e2 : t' = t := Th.ext' h2 h3
          subst e2
          exact down_inv_in e (by omega) (by omega) b
        · omega
        · omega
/-! racks without the bounds -/
def Rn (ws : List Nat) : List Nat → List Stp → List Nat → Prop
  | r, [], r' => r = r'
  | r, st :: sts, r' => ∃ m, RkMv ws st r m ∧ Rn ws m sts r'
theorem Rn.append : ∀ {A B : List Stp} {r m r' : List Nat}, Rn ws r A m → Rn ws m B r' → Rn ws r (A ++ B) r'
  | [], _, r, m, _, h, h2 => by rw [show r = m from h]; exact h2
  | _ :: A, _, _, _, _, ⟨x, h1, h⟩, h2 => ⟨x, h1, h.append h2⟩
def RB (c l : Nat) (r : List Nat) : Prop := r.length ≤ l ∧ ∀ x ∈ r, x ≤ c
theorem RB.step {st : Stp} {c l : Nat} {r r' : List Nat} (hw : ws.length ≤ 5 ∧ ∀ w ∈ ws, w ≤ 4) (pl : plain st) (h : RB c l r) (m : RkMv ws st r r') : RB (c + 3) (l + 4) r' := by
  cases st with
  | op p s =>
    obtain ⟨A, m, Z, rfl, rfl, hs, rfl⟩ := m
    have h1 := h.1
    have hm : m ≤ c := h.2 m (by simp)
    simp only [List.length_append, List.length_cons, List.length_map] at h1 ⊢
    refine ⟨by simp only [List.length_append, List.length_map]; omega, fun x hx => ?_⟩
    rcases List.mem_append.mp hx with hx | hx
    · have := h.2 x (List.mem_append_left _ hx); omega
    · rcases List.mem_append.mp hx with hx | hx
      · obtain ⟨w, hw2, rfl⟩ := List.mem_map.mp hx
        have := hw.2 w hw2
        show m - 1 + w ≤ c + 3
        omega
      · have := h.2 x (List.mem_append_right _ (List.mem_cons_of_mem _ hx)); omega
  | cl p s => exact pl.elim
  | ord ps =>
    obtain ⟨h1, rfl⟩ := m
    have h2 := h.1
    refine ⟨by rw [List.length_map, h1.len]; omega, fun x hx => ?_⟩
    obtain ⟨p, hp, rfl⟩ := List.mem_map.mp hx
    have := h1.lt p hp
    rw [List.getD_eq_getElem?_getD, List.getElem?_eq_getElem this]
    have := h.2 r[p] (List.getElem_mem this)
    show r[p] ≤ c + 3
    omega
theorem Rn.run (hw : ws.length ≤ 5 ∧ ∀ w ∈ ws, w ≤ 4) : ∀ {sts : List Stp} {r r' : List Nat} {c l : Nat}, (∀ st ∈ sts, plain st) → RB c l r → c + 3 * sts.length ≤ 200 → l + 4 * sts.length ≤ 400 → Rn ws r sts r' → Run ws r sts r'
  | [], r, r', _, _, _, _, _, _, h => by rw [show r = r' from h]; exact .nil
  | st :: sts, r, r', c, l, pl, b, h1, h2, ⟨m, x, y⟩ => by
    rw [List.length_cons] at h1 h2
    have b2 := b.step hw (pl st (List.mem_cons_self ..)) x
    exact .cons x ⟨Nat.le_trans b2.1 (by omega), fun x hx => Nat.le_trans (b2.2 x hx) (by omega)⟩ (Rn.run hw (fun s hs => pl s (List.mem_cons_of_mem _ hs)) b2 (by omega) (by omega) y)
theorem take_succ {k : Nat} (hk : k < ws.length) : ws.take (k + 1) = ws.take k ++ [ws.getD k 0] := by
  rw [List.take_add_one, List.getElem?_eq_getElem hk, List.getD_eq_getElem?_getD, List.getElem?_eq_getElem hk]
  rfl
theorem Rn.down {place : Nat} {f g : Nat → Nat} {X : List Nat} (hX : X.length = place) : ∀ {k : Nat} {Y : List Nat}, k ≤ ws.length → (∀ m, m < k → f m < g (ws.getD m 0)) →
    Rn ws (X ++ ((ws.take k).map g ++ Y)) (BA.down place f k) (X ++ ((ws.take k).flatMap (fun a => ws.map (g a - 1 + ·)) ++ Y))
  | 0, Y, _, _ => by show X ++ (_ ++ Y) = _; rfl
  | k + 1, Y, hk, hf => by
    have e := take_succ (ws := ws) (k := k) (by omega)
    refine ⟨(X ++ (ws.take k).map g) ++ (ws.map (g (ws.getD k 0) - 1 + ·) ++ Y), ⟨X ++ (ws.take k).map g, g (ws.getD k 0), Y, ?_, ?_, hf k (by omega), rfl⟩, ?_⟩
    · rw [e, List.map_append]; simp
    · rw [List.length_append, List.length_map, List.length_take, hX]; omega
    · have q := Rn.down (place := place) (f := f) (g := g) hX (k := k) (Y := ws.map (g (ws.getD k 0) - 1 + ·) ++ Y) (by omega) fun m hm => hf m (by omega)
      rw [e, List.flatMap_append]
      simp only [List.append_assoc, List.flatMap_cons, List.flatMap_nil, List.append_nil] at q ⊢
      exact q
/-! blocks -/
theorem blocks {α : Type} {n : Nat} (hn : 0 < n) (g : Nat → Nat → α) : ∀ k, ((List.range k).flatMap fun m => (List.range n).map (g m)) = (List.range (k * n)).map fun j => g (j / n) (j % n)
  | 0 => by rw [Nat.zero_mul]; rfl
  | k + 1 => by
    rw [List.range_succ, List.flatMap_append, blocks hn g k, Nat.succ_mul, List.range_add, List.map_append]
    congr 1
    show (List.range n).map (g k) ++ [] = _
    rw [List.append_nil, List.map_map]
    apply List.map_congr_left
    intro o ho
    have ho := List.mem_range.mp ho
    show g k o = g ((k * n + o) / n) ((k * n + o) % n)
    rw [Nat.mul_comm k n, Nat.mul_add_div hn, Nat.div_eq_of_lt ho, Nat.mul_add_mod, Nat.mod_eq_of_lt ho]
    rfl
theorem ws_range (ws : List Nat) : ws = (List.range ws.length).map (fun i => ws.getD i 0) := by
  apply List.ext_getElem?
  intro i
  rw [List.getElem?_map]
  by_cases h : i < ws.length
  · rw [List.getElem?_range h, List.getElem?_eq_getElem h]; show some ws[i] = some (ws.getD i 0); rw [List.getD_eq_getElem?_getD, List.getElem?_eq_getElem h]; rfl
  · rw [List.getElem?_eq_none (by omega), List.getElem?_eq_none (by rw [List.length_range]; omega)]; rfl
def sig (n place i : Nat) : Nat := if i < place then i else if i < place + n * n then place + ((i - place) % n) * n + (i - place) / n else i
theorem sig_lt {n place i : Nat} (h : i < place) : sig n place i = i := by unfold sig; rw [if_pos h]
theorem sig_ge {n place i : Nat} (h : place + n * n ≤ i) : sig n place i = i := by
  unfold sig; rw [if_neg (by omega), if_neg (by omega)]
theorem sq_lt {n a b : Nat} (h : a < n) (h2 : b < n) : a * n + b < n * n := by
  have : (a + 1) * n ≤ n * n := Nat.mul_le_mul_right n h
  rw [Nat.succ_mul] at this
  omega
theorem sig_in {n place a b : Nat} (h : a < n) (h2 : b < n) : sig n place (place + a * n + b) = place + b * n + a := by
  unfold sig
  have := sq_lt h h2
  rw [if_neg (by omega), if_pos (by omega)]
  have e : place + a * n + b - place = n * a + b := by rw [Nat.mul_comm n a]; omega
  rw [e, Nat.mul_add_mod, Nat.mod_eq_of_lt h2, Nat.mul_add_div (by omega), Nat.div_eq_of_lt h2]
  rfl
theorem sig_cases {n place i : Nat} (hn : 0 < n) : i < place ∨ place + n * n ≤ i ∨ ∃ a b, a < n ∧ b < n ∧ i = place + a * n + b := by
  by_cases h : i < place
  · exact .inl h
  · by_cases h2 : place + n * n ≤ i
    · exact .inr (.inl h2)
    · refine .inr (.inr ⟨(i - place) / n, (i - place) % n, ?_, Nat.mod_lt _ hn, ?_⟩)
      · exact (Nat.div_lt_iff_lt_mul hn).mpr (by omega)
      · have := Nat.div_add_mod (i - place) n
        rw [Nat.mul_comm] at this
        omega
theorem sig_sig {n place i : Nat} (hn : 0 < n) : sig n place (sig n place i) = i := by
  rcases sig_cases (place := place) (i := i) hn with h | h | ⟨a, b, h1, h2, rfl⟩
  · rw [sig_lt h, sig_lt h]
  · rw [sig_ge h, sig_ge h]
  · rw [sig_in h1 h2, sig_in h2 h1]
theorem sig_bd {n place i L : Nat} (hn : 0 < n) (hL : place + n * n ≤ L) (h : i < L) : sig n place i < L := by
  rcases sig_cases (place := place) (i := i) hn with h' | h' | ⟨a, b, h1, h2, rfl⟩
  · rw [sig_lt h']; exact h
  · rw [sig_ge h']; exact h
  · rw [sig_in h1 h2]
    have := sq_lt h2 h1
    omega
def psC (n size place : Nat) : List Nat := List.range place ++ ((List.range n).flatMap fun m => (List.range n).map fun o => place + o * n + m) ++ (List.range (size - 1 - place)).map (place + n * n + ·)
theorem psC_eq {n size place : Nat} (hn : 0 < n) (hp : place < size) : psC n size place = (List.range (size - 1 + n * n)).map (sig n place) := by
  unfold psC
  rw [show size - 1 + n * n = place + (n * n) + (size - 1 - place) by omega, List.range_add, List.range_add, List.map_append, List.map_append, List.map_map, List.map_map, blocks hn]
  congr 1
  · congr 1
    · have e : (List.range place).map (sig n place) = (List.range place).map id := List.map_congr_left fun i hi => sig_lt (List.mem_range.mp hi)
      rw [e, List.map_id]
    · apply List.map_congr_left
      intro j hj
      have hj := List.mem_range.mp hj
      show place + j % n * n + j / n = sig n place (place + j)
      unfold sig
      rw [if_neg (by omega), if_pos (by omega), Nat.add_sub_cancel_left]
  · apply List.map_congr_left
    intro j _
    exact (sig_ge (by omega)).symm
theorem psC_pm {n size place : Nat} (hn : 0 < n) (hp : place < size) : Pm (size - 1 + n * n) (psC n size place) := by
  rw [psC_eq hn hp]
  refine ⟨by rw [List.length_map, List.length_range], ?_, fun p h => ?_⟩
  · refine List.Pairwise.map (R := (· ≠ ·)) _ (fun a b (z : a ≠ b) y => z ?_) List.nodup_range
    rw [← sig_sig (n := n) (place := place) (i := a) hn, y, sig_sig hn]
  · obtain ⟨i, hi, rfl⟩ := List.mem_map.mp h
    exact sig_bd hn (by omega) (List.mem_range.mp hi)
theorem psC_at {n size place i : Nat} (hn : 0 < n) (hp : place < size) (hi : i < size - 1 + n * n) : (psC n size place)[i]? = some (sig n place i) := by
  rw [psC_eq hn hp, List.getElem?_map, List.getElem?_range hi]; rfl
theorem mid_at {n : Nat} (X Z : List Nat) (h : Nat → Nat → Nat) {a b : Nat} (ha : a < n) (hb : b < n) : (X ++ ((List.range (n * n)).map (fun j => h (j / n) (j % n)) ++ Z))[X.length + a * n + b]? = some (h a b) := by
  have := sq_lt ha hb
  rw [List.getElem?_append_right (by omega), show X.length + a * n + b - X.length = n * a + b by rw [Nat.mul_comm n a]; omega]
  have e : n * a = a * n := Nat.mul_comm n a
  rw [List.getElem?_append_left (by rw [List.length_map, List.length_range]; omega), List.getElem?_map, List.getElem?_range (by omega)]
  show some (h ((n * a + b) / n) ((n * a + b) % n)) = _
  rw [Nat.mul_add_mod, Nat.mod_eq_of_lt hb, Nat.mul_add_div (by omega), Nat.div_eq_of_lt hb]
  rfl
theorem mid_ord {n : Nat} (hn : 0 < n) (X Z : List Nat) (h : Nat → Nat → Nat) (hs : ∀ a b, h a b = h b a) {ws : List Nat} :
    RkMv ws (.ord (psC n (X.length + Z.length + 1) X.length)) (X ++ ((List.range (n * n)).map (fun j => h (j / n) (j % n)) ++ Z)) (X ++ ((List.range (n * n)).map (fun j => h (j / n) (j % n)) ++ Z)) := by
  have hl : (X ++ ((List.range (n * n)).map (fun j => h (j / n) (j % n)) ++ Z)).length = X.length + Z.length + 1 - 1 + n * n := by
    simp only [List.length_append, List.length_map, List.length_range]; omega
  refine ⟨by rw [hl]; exact psC_pm hn (by omega), ?_⟩
  rw [psC_eq hn (by omega), List.map_map, ← hl]
  apply List.ext_getElem?
  intro i
  rw [List.getElem?_map]
  by_cases hi : i < (X ++ ((List.range (n * n)).map (fun j => h (j / n) (j % n)) ++ Z)).length
  · rw [List.getElem?_range hi]
    show _ = some ((X ++ ((List.range (n * n)).map (fun j => h (j / n) (j % n)) ++ Z)).getD (sig n X.length i) 0)
    rw [List.getD_eq_getElem?_getD]
    rcases sig_cases (place := X.length) (i := i) hn with h' | h' | ⟨a, b, h1, h2, rfl⟩
    · rw [sig_lt h', List.getElem?_eq_getElem hi]; rfl
    · rw [sig_ge h', List.getElem?_eq_getElem hi]; rfl
    · rw [sig_in h1 h2, mid_at X Z h h1 h2, mid_at X Z h h2 h1, hs]; rfl
  · rw [List.getElem?_eq_none (by omega), List.getElem?_eq_none (by rw [List.length_range]; omega)]; rfl
/-! the first and the second way -/
def way1 (ws : List Nat) (place lo hi : Nat) : List Stp := .op place lo :: down place (fun m => hi - 1 + ws.getD m 0) ws.length
def way2 (ws : List Nat) (size place lo hi : Nat) : List Stp := (.op place hi :: down place (fun _ => lo) ws.length) ++ [.ord (psC ws.length size place)]
def KOk (ws : List Nat) : Prop := 2 ≤ ws.length ∧ ws.length ≤ 5 ∧ ∀ w ∈ ws, w ≤ 4
theorem down_length {place : Nat} {f : Nat → Nat} : ∀ k, (down place f k).length = k
  | 0 => rfl
  | k + 1 => by show (down place f k).length + 1 = _; rw [down_length k]
theorem pair1 {X Z : List Nat} {many lo hi : Nat} (hk : KOk ws) (hm : many ≤ 5) (h1 : lo < hi) (h2 : hi < many) (hl : X.length + Z.length ≤ 4) (hx : ∀ x ∈ X ++ many :: Z, x ≤ 5) :
    Pair ws (X ++ many :: Z) (way1 ws X.length lo hi) (way2 ws (X ++ many :: Z).length X.length lo hi) (X ++ (ws.flatMap (fun a => ws.map (many - 1 + a - 1 + ·)) ++ Z)) := by
  have hn : 0 < ws.length := by have := hk.1; omega
  have hlen : (X ++ many :: Z).length = X.length + Z.length + 1 := by simp; omega
  have rb : RB 5 5 (X ++ many :: Z) := ⟨by omega, hx⟩
  have first : ∀ s, s < many → RkMv ws (.op X.length s) (X ++ many :: Z) (X ++ ((ws.take ws.length).map (many - 1 + ·) ++ Z)) := fun s hs => ⟨X, many, Z, rfl, rfl, hs, by rw [List.take_length]⟩
  have rn1 : Rn ws (X ++ many :: Z) (way1 ws X.length lo hi) (X ++ (ws.flatMap (fun a => ws.map (many - 1 + a - 1 + ·)) ++ Z)) := by
    have q := Rn.down (ws := ws) (place := X.length) (f := fun m => hi - 1 + ws.getD m 0) (g := (many - 1 + ·)) rfl (k := ws.length) (Y := Z) (Nat.le_refl _) fun m _ => by show hi - 1 + ws.getD m 0 < many - 1 + ws.getD m 0; omega
    simp only [List.take_length] at q
    refine ⟨_, first lo (by omega), ?_⟩
    simp only [List.take_length]
    exact q
  have rn2 : Rn ws (X ++ many :: Z) (.op X.length hi :: down X.length (fun _ => lo) ws.length) (X ++ (ws.flatMap (fun a => ws.map (many - 1 + a - 1 + ·)) ++ Z)) := by
    have q := Rn.down (ws := ws) (place := X.length) (f := fun _ => lo) (g := (many - 1 + ·)) rfl (k := ws.length) (Y := Z) (Nat.le_refl _) fun m _ => by show lo < many - 1 + ws.getD m 0; omega
    simp only [List.take_length] at q
    refine ⟨_, first hi (by omega), ?_⟩
    simp only [List.take_length]
    exact q
  have hM : (ws.flatMap (fun a => ws.map (many - 1 + a - 1 + ·))) = (List.range (ws.length * ws.length)).map fun j => many - 1 + ws.getD (j / ws.length) 0 - 1 + ws.getD (j % ws.length) 0 := by
    rw [← blocks hn (fun a b => many - 1 + ws.getD a 0 - 1 + ws.getD b 0)]
    conv => lhs; rw [ws_range ws]
    rw [List.flatMap_map]
    congr 1
    funext a
    simp only [List.map_map, List.length_map, List.length_range]
    apply List.map_congr_left
    intro b hb
    rfl
  have ord : RkMv ws (.ord (psC ws.length (X ++ many :: Z).length X.length)) (X ++ (ws.flatMap (fun a => ws.map (many - 1 + a - 1 + ·)) ++ Z)) (X ++ (ws.flatMap (fun a => ws.map (many - 1 + a - 1 + ·)) ++ Z)) := by
    rw [hM, hlen]
    exact mid_ord hn X Z (fun a b => many - 1 + ws.getD a 0 - 1 + ws.getD b 0) fun a b => by omega
  have rn2' : Rn ws (X ++ many :: Z) (way2 ws (X ++ many :: Z).length X.length lo hi) (X ++ (ws.flatMap (fun a => ws.map (many - 1 + a - 1 + ·)) ++ Z)) := rn2.append ⟨_, ord, rfl⟩
  have hw : ws.length ≤ 5 ∧ ∀ w ∈ ws, w ≤ 4 := ⟨hk.2.1, hk.2.2⟩
  have o1 : ∀ st ∈ way1 ws X.length lo hi, isOp st := fun st h => by
    rcases List.mem_cons.mp h with rfl | h
    · trivial
    · exact down_op h
  have o2 : ∀ st ∈ way2 ws (X ++ many :: Z).length X.length lo hi, plain st := fun st h => by
    rcases List.mem_append.mp h with h | h
    · rcases List.mem_cons.mp h with rfl | h
      · trivial
      · exact (down_op h).plain
    · rw [List.mem_singleton.mp h]; trivial
  have l1 : (way1 ws X.length lo hi).length = ws.length + 1 := by show (down _ _ _).length + 1 = _; rw [down_length]
  have l2 : (way2 ws (X ++ many :: Z).length X.length lo hi).length = ws.length + 2 := by unfold way2; rw [List.length_append, List.length_cons, down_length]; rfl
  refine ⟨rn1.run hw (fun st h => (o1 st h).plain) rb (by omega) (by omega), rn2'.run hw o2 rb (by omega) (by omega), o1, o2, fun t u ht h => ?_⟩
  have hp : X.length < (X ++ many :: Z).length := by omega
  cases h with
  | @cons _ t1 _ _ _ a b =>
    rcases a with ⟨k1, k2, k3⟩ | ⟨k1, k2, k3⟩ | ⟨k1, m1, k2, k3⟩
    · have e : t1 = t := Th.ext' k2 k3
      subst e
      have e2 := b.det (down_mk_lt k1 _)
      subst e2
      refine MvRun.append (u := u) (.cons (.inl ⟨k1, rfl, rfl⟩) (down_mk_lt k1 _)) (.cons ⟨rfl, (psC_pm hn hp).nd, ?_⟩ .nil)
      rw [psC_at hn hp (by omega), sig_lt k1]
    · have e2 := b.det (down_mk_ge (by omega))
      have e3 : t1.at_ + ws.length * (ws.length - 1) = t.at_ + ws.length * ws.length - 1 := by
        obtain ⟨c, hc⟩ : ∃ c, ws.length = c + 1 := ⟨ws.length - 1, by omega⟩
        rw [k2, hc, Nat.add_sub_cancel, Nat.mul_succ]
        omega
      have hpos : 0 < ws.length * ws.length := Nat.mul_pos hn hn
      refine MvRun.append (u := u) (.cons (t' := t1) (.inr (.inl ⟨k1, k2, k3⟩)) (by rw [e2]; exact down_mk_ge (by omega))) (.cons ⟨rfl, (psC_pm hn hp).nd, ?_⟩ .nil)
      rw [e2]
      show (psC _ _ _)[t1.at_ + ws.length * (ws.length - 1)]? = some (t1.at_ + ws.length * (ws.length - 1))
      rw [e3, psC_at hn hp (by omega), sig_ge (by omega)]
    · obtain ⟨m2, h, o2, rfl⟩ := down_inv_in k3 k2.lt (Nat.le_refl _) b
      obtain ⟨g', x, y⟩ := Op.swap h1 (Mv.grD k2.lt) k2 o2
      refine MvRun.append (u := ⟨X.length + m2 * ws.length + m1, h⟩) (.cons (t' := ⟨X.length + m2, g'⟩) (.inr (.inr ⟨k1, m2, x, rfl⟩)) (down_mk_in rfl x.lt (Nat.le_refl _) y)) (.cons (t' := ⟨X.length + m1 * ws.length + m2, h⟩) ⟨rfl, (psC_pm hn hp).nd, ?_⟩ .nil)
      have := sq_lt k2.lt x.lt
      show (psC _ _ _)[X.length + m1 * ws.length + m2]? = some (X.length + m2 * ws.length + m1)
      rw [psC_at hn hp (by omega), sig_in k2.lt x.lt]
theorem way1_len {X Z : List Nat} {many lo hi : Nat} {t u : Th} (h : MvRun ws t (way1 ws X.length lo hi) u) (e : t.at_ = X.length) : u.f.code.length + 2 = t.f.code.length := by
  cases h with
  | @cons _ t1 _ _ _ a b =>
    rcases a with ⟨k1, k2, k3⟩ | ⟨k1, k2, k3⟩ | ⟨k1, m1, k2, k3⟩
    · omega
    · omega
    · obtain ⟨m2, h, o2, rfl⟩ := down_inv_in k3 k2.lt (Nat.le_refl _) b
      obtain ⟨A, Z, e1, e2, _⟩ := k2.code
      obtain ⟨A', Z', e1', e2', _⟩ := o2.code
      have l1 := congrArg List.length e1
      have l2 := congrArg List.length e2
      have l3 := congrArg List.length e1'
      have l4 := congrArg List.length e2'
      simp only [List.length_append, List.length_cons] at l1 l2 l3 l4
      show h.code.length + 2 = _
      omega
/-- two places -/
theorem pair2 {X Y Z : List Nat} {a b s1 s2 : Nat} (hk : KOk ws) (h1 : s1 < a) (h2 : s2 < b) (hl : X.length + Y.length + Z.length ≤ 3) (hx : ∀ x ∈ X ++ a :: (Y ++ b :: Z), x ≤ 5) :
    ∃ r', Pair ws (X ++ a :: (Y ++ b :: Z)) [.op X.length s1, .op (X.length + 1 + Y.length + (ws.length - 1)) s2] [.op (X.length + 1 + Y.length) s2, .op X.length s1] r' := by
  have hn : 0 < ws.length := by have := hk.1; omega
  have rb : RB 5 5 (X ++ a :: (Y ++ b :: Z)) := ⟨by simp only [List.length_append, List.length_cons]; omega, hx⟩
  have hw : ws.length ≤ 5 ∧ ∀ w ∈ ws, w ≤ 4 := ⟨hk.2.1, hk.2.2⟩
  refine ⟨X ++ (ws.map (a - 1 + ·) ++ (Y ++ (ws.map (b - 1 + ·) ++ Z))), ?_⟩
  have ra : Rn ws (X ++ a :: (Y ++ b :: Z)) [.op X.length s1, .op (X.length + 1 + Y.length + (ws.length - 1)) s2] (X ++ (ws.map (a - 1 + ·) ++ (Y ++ (ws.map (b - 1 + ·) ++ Z)))) := by
    refine ⟨_, ⟨X, a, Y ++ b :: Z, rfl, rfl, h1, rfl⟩, _, ⟨X ++ ws.map (a - 1 + ·) ++ Y, b, Z, by simp, ?_, h2, rfl⟩, by show _ = _; simp⟩
    simp only [List.length_append, List.length_map]
    omega
  have rb2 : Rn ws (X ++ a :: (Y ++ b :: Z)) [.op (X.length + 1 + Y.length) s2, .op X.length s1] (X ++ (ws.map (a - 1 + ·) ++ (Y ++ (ws.map (b - 1 + ·) ++ Z)))) := by
    refine ⟨_, ⟨X ++ a :: Y, b, Z, by simp, ?_, h2, rfl⟩, _, ⟨X, a, Y ++ (ws.map (b - 1 + ·) ++ Z), by simp, rfl, h1, rfl⟩, rfl⟩
    simp only [List.length_append, List.length_cons]
    omega
  have pl : ∀ (p1 q1 p2 q2 : Nat) (st : Stp), st ∈ [Stp.op p1 q1, .op p2 q2] → isOp st := fun p1 q1 p2 q2 st h => by
    rcases List.mem_cons.mp h with rfl | h
    · trivial
    · rw [List.mem_singleton.mp h]; trivial
  refine ⟨ra.run hw (fun st h => (pl _ _ _ _ st h).plain) rb (by show 5 + 3 * 2 ≤ 200; omega) (by show 5 + 4 * 2 ≤ 400; omega), rb2.run hw (fun st h => (pl _ _ _ _ st h).plain) rb (by show 5 + 3 * 2 ≤ 200; omega) (by show 5 + 4 * 2 ≤ 400; omega), pl _ _ _ _, fun st h => (pl _ _ _ _ st h).plain, fun t u ht h => ?_⟩
  cases h with
  | @cons _ t1 _ _ _ x y =>
    have y := y.one
    rcases x with ⟨k1, k2, k3⟩ | ⟨k1, k2, k3⟩ | ⟨k1, m1, k2, k3⟩ <;> rcases y with ⟨j1, j2, j3⟩ | ⟨j1, j2, j3⟩ | ⟨j1, m2, j2, j3⟩
    · exact .cons (t' := t) (.inl ⟨by omega, rfl, rfl⟩) (.cons (.inl ⟨k1, by omega, j3.trans k3⟩) .nil)
    · omega
    · omega
    · exact .cons (t' := t) (.inl ⟨by omega, rfl, rfl⟩) (.cons (.inr (.inl ⟨k1, by omega, j3.trans k3⟩)) .nil)
    · exact .cons (t' := t1) (.inr (.inl ⟨by omega, k2, k3⟩)) (.cons (.inr (.inl ⟨by omega, j2, j3⟩)) .nil)
    · refine .cons (t' := ⟨X.length + 1 + Y.length + m2, u.f⟩) (.inr (.inr ⟨by omega, m2, by rw [← k3]; exact j2, rfl⟩)) (.cons (t' := u) (.inr (.inl ⟨by show X.length < X.length + 1 + Y.length + m2; omega, ?_, rfl⟩)) .nil)
      show u.at_ = X.length + 1 + Y.length + m2 + (ws.length - 1)
      omega
    · exact .cons (t' := t) (.inl ⟨by omega, rfl, rfl⟩) (.cons (.inr (.inr ⟨k1, m1, by rw [j3]; exact k2, by omega⟩)) .nil)
    · have := k2.lt; omega
    · have := k2.lt; omega
end BA

set_option maxHeartbeats 4000000
namespace BA
open PySem PySem.Spec PyProof.Rows L2
/-! data of the text -/
abbrev nsI (r : List Nat) : List Int := r.map fun x => ((x : Nat) : Int)
abbrev rackD (r : List Nat) : D := .tup ((nsI r).map D.int)
abbrev rowD (f : Fo) : D := .tup (f.code.map D.int)
abbrev thD (t : Th) : D := .tup [.int (t.at_ : Nat), rowD t.f]
def stD : Stp → D
  | .op p s => .tup [.str "open", .int (p : Nat), .int (s : Nat)]
  | .cl p s => .tup [.str "close", .int (p : Nat), .int (s : Nat)]
  | .ord ps => .tup [.str "order", rackD ps]
def nm : Nat → Str
  | 0 => "a" | 1 => "bb" | 2 => "ccc" | 3 => "d" | _ => "ee"
def rowK (w i : Nat) : D := .tup [.str (nm i), .int (w : Nat)]
def rowsK (ws : List Nat) : List D := ws.zipIdx.map fun q => rowK q.1 q.2
abbrev kD (C : Addr) (ws : List Nat) : D := .ins C ["rows"] [.lst (rowsK ws)]
theorem rowsK_length (ws : List Nat) : (rowsK ws).length = ws.length := by unfold rowsK; rw [List.length_map, List.length_zipIdx]
theorem rowsK_at {ws : List Nat} {m w : Nat} (h : ws[m]? = some w) : (rowsK ws)[m]? = some (rowK w m) := by
  unfold rowsK
  rw [List.getElem?_map, List.getElem?_zipIdx, h]
  simp
section
variable {P : Program} {w : World} {K : PySem.W.Frag} {mg : Str → Option Value} {base : Heap}
/-! Kind -/
abbrev cLen (C : Addr) : Con := ⟨List Nat, fun ws => [.dat (kD C ws)], fun _ => True, fun ws d => d = .int (ws.length : Nat)⟩
theorem ok_Kind_len (T : Txt K mg) : MetOk P w K mg base 1 (CK K) "__len__" (cLen (CK K)) := by
  refine m_Kind_len T (fun _ => rfl) fun f cdv A outer s H E hr B ws _ => ?_
  refine exs_cons (ex_ret (ev_callB T.f_len (by decide +kernel) (ea_cons (ev_fld T.cKind T.naKind (ev_var 0 rfl ⟨_, _, _, rfl, rfl, ea_nil (bc_lenL ?_)⟩)))))
  show D.int _ = D.int _
  rw [rowsK_length]
theorem ev_lenK {X : Cx} {B : Base} {δ : List Ent} {R : D → Prop} {e : Expr} {pos p1 : Pos} {k : Nat} {C : Addr} (F : MetOk X.prog X.w X.K X.mg X.base k C "__len__" (cLen C)) (hr : Room (k + 1) X.A) (hm : X.mg "len" = none)
    (h : Ev X B e δ fun d => ∃ ws : List Nat, d = kD C ws ∧ ws.length < 100 ∧ R (.int (ws.length : Nat))) (hg : Gl X "len" := by rfl) (he : starEach [e] X.env = (false, eval e X.env) :: starEach [] X.env := by rfl) (hpl : (backTo pos (starEach [] X.env)).any (·.1) = false := by rfl) :
    Ev X B (.Call (.Name "len" p1) [e] [] pos) δ R := by
  obtain ⟨f, fd, ps, cl, hM, hb, FO⟩ := F
  refine ev_lenO FO hr hb hM.at_ hM.fn hm (Ev.mono h fun d ⟨ws, e, hl, r⟩ => ⟨_, _, e, ws, by rw [e], trivial, fun y hy => ⟨_, hy, by omega, by omega, r⟩⟩) hg he hpl
abbrev cSure (C : Addr) : Con := ⟨List Nat × Nat, fun x => [.dat (kD C x.1), .dat (.int (x.2 : Nat))], fun x => x.2 < x.1.length, fun _ d => d = .non⟩
theorem ok_Kind_sure (T : Txt K mg) : MetOk P w K mg base 2 (CK K) "sure_maker" (cSure (CK K)) := by
  refine m_Kind_sure_maker T (fun _ => rfl) fun f cdv A outer s H E hr B (x : List Nat × Nat) (hx : x.2 < x.1.length) => ?_
  refine exs_cons (ex_if (et_not (et_ev (by intro _; rfl) (ev_call (ok_is_whole T) (hr.mono (by decide)) (ea_cons (ev_var 1 rfl (ea_cons (ev_int (ea_cons (ev_bin ?_))))))))))
  refine ev_callB T.f_len (by decide +kernel) (ea_cons (ev_fld T.cKind T.naKind (ev_var 0 rfl ⟨_, _, _, rfl, rfl, ea_nil (bc_lenL (ev_int (bo_sub (ea_nil ⟨(_, _), rfl, trivial, ?_⟩))))⟩)))
  rintro d rfl
  exact is_ndt (below (by rw [rowsK_length]; exact hx)) (exs_nil (exs_nil rfl))
abbrev cWithin (C : Addr) : Con := ⟨List Nat × Nat, fun x => [.dat (kD C x.1), .dat (.int (x.2 : Nat))], fun x => x.2 < x.1.length, fun x d => d = .int (x.1.getD x.2 0 : Nat)⟩
theorem ok_Kind_within (T : Txt K mg) : MetOk P w K mg base 3 (CK K) "within" (cWithin (CK K)) := by
  refine m_Kind_within T (fun _ => rfl) fun f cdv A outer s H E hr B (x : List Nat × Nat) (hx : x.2 < x.1.length) => ?_
  refine exs_cons (ex_expr (ev_meth (ok_Kind_sure T) (hr.mono (by decide)) (by decide) (ev_var 0 rfl ⟨_, rfl, ea_cons (ev_var 1 rfl (ea_nil ⟨(x.1, x.2), rfl, hx, ?_⟩))⟩)))
  rintro d rfl
  have he : x.1[x.2]? = some (x.1.getD x.2 0) := Mv.grD hx
  refine exs_cons (ex_ret (ev_ix (ev_ix (ev_fld T.cKind T.naKind (ev_var 0 rfl ⟨_, _, _, rfl, rfl, ev_var 1 rfl (bix_lst (atI_of (by omega) (rowsK_at he)) (ev_int (bix_tup (by rfl) ?_)))⟩)))))
  rfl
end
end BA

set_option maxHeartbeats 4000000
namespace BA
open PySem PySem.Spec PyProof.Rows L2
theorem below0 {m n : Nat} (h : m ≤ n) : 0 ≤ ((m : Nat) : Int) ∧ ((m : Nat) : Int) ≤ ((n : Nat) : Int) := ⟨by omega, by omega⟩
theorem drop_at {α : Type} {l : List α} {i : Nat} {x : α} (h : l[i]? = some x) : l.drop i = x :: l.drop (i + 1) := by
  obtain ⟨hi, e⟩ := List.getElem?_eq_some_iff.mp h
  rw [List.drop_eq_getElem_cons hi, e]
theorem at_drop {α : Type} {l r : List α} {i : Nat} {x : α} (h : l.drop i = x :: r) : l[i]? = some x := by
  have := congrArg List.head? h
  rw [List.head?_drop] at this
  exact this
theorem drop_succ {α : Type} {l r : List α} {i : Nat} {x : α} (h : l.drop i = x :: r) : l.drop (i + 1) = r := by
  rw [← List.drop_drop (i := 1) (j := i), h]; rfl
/-! plain: how the ends are found -/
theorem ends_step {ws : List Nat} {pend rest : Fo} {x : Int} {l : List Int} (h : pend.code ++ rest.code = x :: l) (hp : pend.full ∧ pend.wf ws) (hr : rest.full ∧ rest.wf ws) :
    ∃ (m : Nat) (pend' rest' : Fo), x = m ∧ m < ws.length ∧ (max pend.len 1 - 1 + ws.getD m 0 = pend'.len) ∧ l = pend'.code ++ rest'.code ∧ (pend'.full ∧ pend'.wf ws) ∧ (rest'.full ∧ rest'.wf ws) ∧ (if pend.len = 0 then 0 else 1) + rest.len = 1 + rest'.len := by
  have gd : ∀ {m c : Nat}, ws[m]? = some c → m < ws.length ∧ ws.getD m 0 = c := fun {m c} e => by
    obtain ⟨h1, h2⟩ := List.getElem?_eq_some_iff.mp e
    exact ⟨h1, by rw [List.getD_eq_getElem?_getD, e]; rfl⟩
  cases pend with
  | nil =>
    cases rest with
    | nil => cases h
    | hole r => exact hr.1.elim
    | node m cs r =>
      obtain ⟨rfl, rfl⟩ := List.cons.inj (show (m : Int) :: (cs.code ++ r.code) = x :: l from h)
      obtain ⟨h1, h2⟩ := gd hr.2.1
      refine ⟨m, cs, r, rfl, h1, ?_, rfl, ⟨hr.1.1, hr.2.2.1⟩, ⟨hr.1.2, hr.2.2.2⟩, ?_⟩
      · rw [h2]; show max 0 1 - 1 + _ = _; omega
      · show 0 + (r.len + 1) = 1 + r.len; omega
  | hole r => exact hp.1.elim
  | node m cs r =>
    obtain ⟨rfl, rfl⟩ := List.cons.inj (show (m : Int) :: (cs.code ++ r.code ++ rest.code) = x :: l from h)
    obtain ⟨h1, h2⟩ := gd hp.2.1
    refine ⟨m, cs.app r, rest, rfl, h1, ?_, by rw [Fo.code_app], ⟨Fo.full_app hp.1.1 hp.1.2, Fo.wf_app hp.2.2.1 hp.2.2.2⟩, hr, ?_⟩
    · rw [h2, Fo.len_app]; show max (r.len + 1) 1 - 1 + _ = _; omega
    · have z : (Fo.node m cs r).len ≠ 0 := Nat.succ_ne_zero _
      rw [if_neg z]
theorem len0 {f : Fo} (h : f.len = 0) : f = .nil := by
  cases f with
  | nil => rfl
  | hole _ => cases h
  | node _ _ _ => cases h
section
variable {P : Program} {w : World} {K : PySem.W.Frag} {mg : Str → Option Value} {base : Heap}
abbrev cEnds (C : Addr) : Con := ⟨List Nat × Fo, fun x => [.dat (kD C x.1), .dat (rowD x.2)], fun x => x.1.length < 100 ∧ x.2.code.length ≤ 1000 ∧ x.2.full ∧ x.2.wf x.1, fun x d => ∃ es : List Int, d = .lst (es.map D.int) ∧ es.length = x.2.len⟩
theorem ok_ends_in (T : Txt K mg) : DefOk P w K mg base 4 "ends_in" (cEnds (CK K)) := by
  refine m_ends_in T (fun _ => rfl) fun f cdv A outer s H E hr B (x : List Nat × Fo) (hx : x.1.length < 100 ∧ x.2.code.length ≤ 1000 ∧ x.2.full ∧ x.2.wf x.1) => ?_
  obtain ⟨ws, f⟩ := x
  obtain ⟨hw, hcl, hf1, hf2⟩ := hx
  refine exs_cons (ex_if (et_not (et_ev (by intro _; rfl) (ev_isi (k := true) (t := "tuple") (T := "tuple") T.f_isinstance T.f_tuple (by decide +kernel) (by decide +kernel) (ev_var 1 rfl ⟨rfl, is_nt (exs_nil ?_)⟩)))))
  refine exs_cons (ex_own 2 sc_ends_in.nd (ea_nil (dats0 ⟨by decide, ?_⟩)))
  refine exs_cons (ex_set 3 sc_ends_in.nd (ev_int ?_))
  refine exs_cons (ex_for PassesOwn.never rfl (ei_enumT T.f_enumerate (ev_var 1 rfl ⟨_, rfl, ?_⟩)))
  refine ⟨fun i δ' => ∃ (pend rest : Fo) (fs : List Int) (a b : Ent), δ' = [.dat (kD (CK K) ws), .dat (rowD f), .own .l (fs.map D.int), .dat (.int (pend.len : Nat)), a, b] ∧ f.code.drop i = pend.code ++ rest.code ∧ (pend.full ∧ pend.wf ws) ∧ (rest.full ∧ rest.wf ws) ∧ fs.length ≤ i ∧
    fs.length + (if pend.len = 0 then 0 else 1) + rest.len = f.len, ⟨.nil, f, [], _, _, rfl, rfl, ⟨trivial, trivial⟩, ⟨hf1, hf2⟩, Nat.le_refl _, by show 0 + 0 + f.len = f.len; omega⟩, ?_, ?_⟩
  · rintro i d δ' hd ⟨pend, rest, fs, a, b, rfl, h1, h2, h3, h4, h5⟩
    obtain ⟨x, hx, rfl⟩ := enumD_at hd
    rw [List.getElem?_map] at hx
    obtain ⟨y, hy, rfl⟩ := Option.map_eq_some_iff.mp hx
    have hz := (drop_at hy).symm.trans h1
    obtain ⟨m, pend', rest', rfl, k1, k2, k3, k4, k5, k6⟩ := ends_step hz.symm h2 h3
    have hcl : f.code.length ≤ 1000 := hcl
    have hi : i < f.code.length := (List.getElem?_eq_some_iff.mp hy).1
    refine eg_tpw rfl (egs_cons (eg_name 4 sc_ends_in.nd (egs_cons (eg_name 5 sc_ends_in.nd (egs_nil ?_)))))
    refine exs_cons (ex_if (et_not (et_ev (by intro _; rfl) (ev_call (ok_is_whole T) (hr.mono (by decide)) (ea_cons (ev_var 5 rfl (ea_cons (ev_int (ea_cons (ev_bin ?_))))))))))
    refine ev_lenK (ok_Kind_len T) (hr.mono (by decide)) T.f_len (ev_var 0 rfl ⟨ws, rfl, hw, ev_int (bo_sub (ea_nil ⟨(_, _), rfl, trivial, ?_⟩))⟩)
    rintro d rfl
    refine is_ndt (below k1) (exs_nil ?_)
    refine exs_cons (ex_set 3 sc_ends_in.nd (ev_bin (ev_bin (ev_callB T.f_max (by decide +kernel) (ea_cons (ev_var 3 rfl (ea_cons (ev_int (ea_nil (bc_max2 rfl (ev_int (bo_sub ?_))))))))))))
    refine ev_meth (ok_Kind_within T) (hr.mono (by decide)) (by decide) (ev_var 0 rfl ⟨_, rfl, ea_cons (ev_var 5 rfl (ea_nil ⟨(ws, m), rfl, k1, ?_⟩))⟩)
    rintro d rfl
    refine bo_add ?_
    have e : (if (1 : Int) > ((pend.len : Nat) : Int) then (1 : Int) else ((pend.len : Nat) : Int)) - 1 + ((ws.getD m 0 : Nat) : Int) = ((pend'.len : Nat) : Int) := by
      split <;> omega
    rw [e]
    refine exs_cons (ex_if (et_cmp (by decide +kernel) (ev_var 3 rfl (ev_int (bo_eq (is_d (fun z => ?_) fun z => ?_))))))
    · have e0 : pend'.len = 0 := by omega
      refine exs_cons (ex_append 2 rfl (by rw [List.length_map]; exact small1000 (by omega)) (ev_bin (ev_var 4 rfl (ev_int (bo_add ?_)))))
      refine exs_nil (exs_nil ⟨pend', rest', fs ++ [((i : Nat) : Int) + 1], _, _, by rw [List.map_append]; rfl, ?_, k4, k5, by rw [List.length_append]; exact Nat.succ_le_succ h4, ?_⟩)
      · rw [← k3]
      · rw [List.length_append, if_pos e0]
        show fs.length + 1 + 0 + rest'.len = f.len
        omega
    · have e0 : ¬ pend'.len = 0 := by omega
      refine exs_nil (exs_nil ⟨pend', rest', fs, _, _, rfl, ?_, k4, k5, by omega, ?_⟩)
      · rw [← k3]
      · rw [if_neg e0]; omega
  · rintro δ' ⟨pend, rest, fs, a, b, rfl, h1, h2, h3, h4, h5⟩
    rw [enumD_length, List.length_map, List.drop_length] at h1
    have p0 : pend = .nil := by
      cases pend with
      | nil => rfl
      | hole r => cases h1
      | node m cs r => cases h1
    subst p0
    have r0 : rest = .nil := by
      cases rest with
      | nil => rfl
      | hole r => cases h1
      | node m cs r => cases h1
    subst r0
    refine exs_freeze 2 rfl rfl (exs_cons (ex_ret (ev_ife (et_cmp (by decide +kernel) (ev_var 3 rfl (ev_int (bo_eq (is_dt rfl (ev_var 2 rfl ⟨fs, rfl, ?_⟩)))))))))
    have h5 : fs.length + 0 + 0 = f.len := h5
    show fs.length = f.len
    omega
end
end BA

set_option maxHeartbeats 4000000
namespace BA
open PySem PySem.Spec PyProof.Rows L2
theorem sz {n : Nat} (h : n ≤ 1000000) : n ≤ sizeLine := Nat.le_trans h (by decide)
theorem szl {n : Nat} (h : n ≤ 1000000) : n < sizeLine := Nat.lt_of_le_of_lt h (by decide)
theorem len_le_code : ∀ f : Fo, f.len ≤ f.code.length
  | .nil => Nat.le_refl _
  | .hole r => Nat.succ_le_succ (len_le_code r)
  | .node m cs r => by
    have := len_le_code r
    show r.len + 1 ≤ (cs.code ++ r.code).length + 1
    rw [List.length_append]; omega
section
variable {P : Program} {w : World} {K : PySem.W.Frag} {mg : Str → Option Value} {base : Heap}
abbrev FOk (ws : List Nat) (f : Fo) : Prop := ws.length < 100 ∧ f.code.length ≤ 1000 ∧ f.full ∧ f.wf ws
abbrev cTrees (C : Addr) : Con := ⟨List Nat × Fo, fun x => [.dat (kD C x.1), .dat (rowD x.2)], fun x => FOk x.1 x.2, fun x d => ∃ xs : List D, d = .lst xs ∧ xs.length = x.2.len⟩
theorem ok_trees_in (T : Txt K mg) : DefOk P w K mg base 5 "trees_in" (cTrees (CK K)) := by
  refine m_trees_in T (fun _ => rfl) fun f cdv A outer s H E hr B (x : List Nat × Fo) (hx : FOk x.1 x.2) => ?_
  obtain ⟨ws, f⟩ := x
  refine exs_cons (ex_set 2 sc_trees_in.nd (ev_call (ok_ends_in T) (hr.mono (by decide)) (ea_cons (ev_var 0 rfl (ea_cons (ev_var 1 rfl (ea_nil ⟨(ws, f), rfl, hx, ?_⟩)))))))
  rintro d ⟨es, rfl, hl⟩
  refine exs_cons (ex_if (et_cmp (by decide +kernel) (ev_var 2 rfl (ev_non (bo_isN (is_f (exs_nil ?_)))))))
  refine exs_cons (ex_ret (ev_lcG (own := [("begin", 3), ("end", 4)]) rfl sc_trees_in.nd (blkOk_by (by show blkC N_trees_in (defScope s_trees_in) _ _ = true; decide +kernel)) (takes_pair 3 4 (by decide) rfl sc_trees_in.nd rfl rfl (by intro _ _ _ _ _; exact .inl rfl) (by intro _ _ _ _ _; exact .inl rfl) (by intro _ _ _ _ _; exact .inr rfl) (by intro _ _ _ _ _; exact .inr rfl)) ?_))
  refine ei_zipL T.f_zip (ev_bin (ev_lst (ea_cons (ev_int (ea_nil (dats1 ⟨by decide, ?_⟩)))))) 
  refine ev_var 2 rfl (bo_addL ?_ (ev_var 2 rfl ⟨_, _, rfl, rfl, ?_⟩))
  · rw [List.length_map, hl]
    have h1 := len_le_code f
    have h2 : f.code.length ≤ 1000 := hx.2.1
    exact sz (by show 1 + f.len ≤ 1000000; omega)
  · have hz : ∀ {i : Nat} {d : D}, (zipD ([D.int 0] ++ es.map D.int) (es.map D.int))[i]? = some d → ∃ a b : Int, d = .tpw [.int a, .int b] := fun {i d} hd => by
      obtain ⟨x, y, hx, hy, rfl⟩ := zipD_at hd
      have e : [D.int 0] ++ es.map D.int = (0 :: es).map D.int := rfl
      rw [e, List.getElem?_map] at hx
      rw [List.getElem?_map] at hy
      obtain ⟨a, _, rfl⟩ := Option.map_eq_some_iff.mp hx
      obtain ⟨b, _, rfl⟩ := Option.map_eq_some_iff.mp hy
      exact ⟨a, b, rfl⟩
    refine ⟨fun d hd => ?_, fun i acc => acc.length = i, rfl, fun i d acc hd hi => ?_, fun acc hacc => ⟨acc, rfl, ?_⟩⟩
    · obtain ⟨i, hi⟩ := List.getElem?_of_mem hd
      obtain ⟨a, b, rfl⟩ := hz hi
      rfl
    · obtain ⟨a, b, rfl⟩ := hz hd
      have hi2 := (List.getElem?_eq_some_iff.mp hd).1
      unfold zipD at hi2
      rw [List.length_map, List.length_zip, List.length_map, hl] at hi2
      have h1 := len_le_code f
      have h2 : f.code.length ≤ 1000 := hx.2.1
      have hi2 : i < f.len := Nat.lt_of_lt_of_le hi2 (Nat.min_le_right _ _)
      refine ⟨by rw [hi]; exact szl (by omega), fun s H0 C cl fp => ets_nil (t_t fun s H0 C cl fp => ?_)⟩
      refine ev_sl (ev_var 1 rfl (eo_some (ev_var 3 rfl ⟨_, rfl, eo_some (ev_var 4 rfl ⟨_, rfl, bsl_tup ?_⟩)⟩)))
      show (acc ++ [_]).length = i + 1
      rw [List.length_append, hi]; rfl
    · have hl : es.length = f.len := hl
      rw [hacc]
      unfold zipD
      rw [List.length_map, List.length_zip, List.length_append, List.length_map, hl]
      show min (1 + f.len) f.len = f.len
      omega
end
end BA

set_option maxHeartbeats 4000000
namespace BA
open PySem PySem.Spec PyProof.Rows L2
theorem reps_all : ∀ n : Nat, (List.replicate n true).all id = true
  | 0 => rfl
  | n + 1 => by rw [List.replicate_succ, List.all_cons, reps_all n]; rfl
theorem atI_nat {α : Type} {xs : List α} {n : Nat} {d : α} (h : xs[n]? = some d) : atI xs ((n : Nat) : Int) = some d := atI_of (by omega) (by rw [Int.toNat_natCast]; exact h)
theorem nsI_at {r : List Nat} {i x : Nat} (h : r[i]? = some x) : ((nsI r).map D.int)[i]? = some (.int (x : Nat)) := by
  rw [List.getElem?_map, List.getElem?_map, h]; rfl
theorem nsI_len (r : List Nat) : ((nsI r).map D.int).length = r.length := by rw [List.length_map, List.length_map]
section
variable {P : Program} {w : World} {K : PySem.W.Frag} {mg : Str → Option Value} {base : Heap}
abbrev cRack : Con := ⟨List Nat, fun r => [.dat (rackD r)], fun r => RkOk r, fun _ d => d = .bl true⟩
theorem ok_is_rack (T : Txt K mg) : DefOk P w K mg base 2 "is_rack" cRack := by
  refine m_is_rack T (fun _ => rfl) fun f cdv A outer s H E hr B (r : List Nat) (hx : RkOk r) => ?_
  refine exs_cons (ex_if (et_w (ew_or (et_not (et_ev (by intro _; rfl) (ev_isi (k := true) (t := "tuple") (T := "tuple") T.f_isinstance T.f_tuple (by decide +kernel) (by decide +kernel) (ev_var 0 rfl ⟨rfl, is_nt ?_⟩)))))))
  refine ew_or1 (et_cmp (by decide +kernel) (ev_callB T.f_len (by decide +kernel) (ea_cons (ev_var 0 rfl (ea_nil (bc_lenT (ev_gint T.i_MOST_FORMS (bo_gt (is_df ?_ (exs_nil ?_))))))))))
  · rw [nsI_len]
    have := hx.1
    omega
  refine exs_cons (ex_ret (ev_callB (id := "all") T.f_all (by decide +kernel) (ea_cons (ev_lcG (own := [("form", 1)]) rfl sc_is_rack.nd (blkOk_by (by show blkC N_is_rack (defScope s_is_rack) _ _ = true; decide +kernel)) (takes_name 1 sc_is_rack.nd rfl (by intro _ _ _ _ _; exact .inl rfl) (by intro _ _ _ _ _; exact .inr rfl)) (ei_tup (ev_var 0 rfl ⟨_, rfl, ?_⟩))))))
  refine ⟨fun _ _ => trivial, fun i acc => acc = (List.replicate i true).map D.bl, rfl, fun i d acc hd hi => ?_, fun acc hacc => ?_⟩
  · rw [List.getElem?_map, List.getElem?_map] at hd
    obtain ⟨_, h1, rfl⟩ := Option.map_eq_some_iff.mp hd
    obtain ⟨y, h2, rfl⟩ := Option.map_eq_some_iff.mp h1
    have hil := (List.getElem?_eq_some_iff.mp h2).1
    have hl := hx.1
    refine ⟨by rw [hi, List.length_map, List.length_replicate]; exact szl (by omega), fun s H0 C cl fp => ets_nil (t_t fun s H0 C cl fp => ?_)⟩
    refine ev_call (ok_is_whole T) (hr.mono (by decide)) (ea_cons (ev_var 1 rfl (ea_cons (ev_int (ea_cons (ev_gint T.i_MOST_TREES (ea_nil ⟨(_, _), rfl, trivial, ?_⟩)))))))
    rintro d rfl
    show acc ++ [D.bl _] = _
    have hy := hx.2 y (List.mem_of_getElem? h2)
    rw [decide_eq_true (⟨by omega, by omega⟩ : (0 : Int) ≤ ((y : Nat) : Int) ∧ ((y : Nat) : Int) ≤ 200), hi, List.replicate_succ', List.map_append]
    rfl
  · subst hacc
    refine ea_nil (bc_all rfl ?_)
    show D.bl _ = D.bl _
    rw [reps_all]
abbrev cSureR : Con := ⟨List Nat, fun r => [.dat (rackD r)], fun r => RkOk r, fun _ d => d = .non⟩
theorem ok_sure_rack (T : Txt K mg) : DefOk P w K mg base 3 "sure_rack" cSureR := by
  refine m_sure_rack T (fun _ => rfl) fun f cdv A outer s H E hr B (r : List Nat) (hx : RkOk r) => ?_
  refine exs_cons (ex_if (et_not (et_ev (by intro _; rfl) (ev_call (ok_is_rack T) (hr.mono (by decide)) (ea_cons (ev_var 0 rfl (ea_nil ⟨r, rfl, hx, ?_⟩)))))))
  rintro d rfl
  exact is_nt (exs_nil (exs_nil rfl))
theorem ok_rack_unless (T : Txt K mg) : DefOk P w K mg base 3 "rack_unless" cSureR := by
  refine m_rack_unless T (fun _ => rfl) fun f cdv A outer s H E hr B (r : List Nat) (hx : RkOk r) => ?_
  refine exs_cons (ex_if (et_not (et_ev (by intro _; rfl) (ev_call (ok_is_rack T) (hr.mono (by decide)) (ea_cons (ev_var 0 rfl (ea_nil ⟨r, rfl, hx, ?_⟩)))))))
  rintro d rfl
  exact is_nt (exs_nil (exs_nil rfl))
/-- a thing of a rack, as the law's are -/
abbrev ThOk (ws r : List Nat) (t : Th) : Prop := FOk ws t.f ∧ ThP ws r t
abbrev cAmong (C : Addr) : Con := ⟨List Nat × List Nat × Th, fun x => [.dat (kD C x.1), .dat (rackD x.2.1), .dat (thD x.2.2)], fun x => ThOk x.1 x.2.1 x.2.2, fun _ d => d = .bl true⟩
theorem ok_is_among (T : Txt K mg) : DefOk P w K mg base 6 "is_among" (cAmong (CK K)) := by
  refine m_is_among T (fun _ => rfl) fun f cdv A outer s H E hr B (x : List Nat × List Nat × Th) (hx : ThOk x.1 x.2.1 x.2.2) => ?_
  obtain ⟨ws, r, t⟩ := x
  obtain ⟨h1, h2, h3⟩ := hx
  refine exs_cons (ex_if (et_w (ew_or (et_not (et_ev (by intro _; rfl) (ev_isi (k := true) (t := "tuple") (T := "tuple") T.f_isinstance T.f_tuple (by decide +kernel) (by decide +kernel) (ev_var 2 rfl ⟨rfl, is_nt ?_⟩)))))))
  refine ew_or (et_cmp (by decide +kernel) (ev_callB T.f_len (by decide +kernel) (ea_cons (ev_var 2 rfl (ea_nil (bc_lenT (ev_int (bo_ne (is_nddt rfl ?_)))))))))
  refine ew_or1 (et_not (et_ev (by intro _; rfl) (ev_call (ok_is_whole T) (hr.mono (by decide)) (ea_cons (ev_ix (ev_var 2 rfl (ev_int (bix_tup (by rfl) (ea_cons (ev_int (ea_cons (ev_bin ?_))))))))))))
  refine ev_callB (id := "len") T.f_len (by decide +kernel) (ea_cons (ev_var 1 rfl (ea_nil (bc_lenT (ev_int (bo_sub (ea_nil ⟨(_, _), rfl, trivial, ?_⟩)))))))
  rintro d rfl
  refine is_ndt (below (by rw [nsI_len]; exact (List.getElem?_eq_some_iff.mp h3).1)) (exs_nil ?_)
  refine exs_cons (ex_set 3 sc_is_among.nd (ev_call (ok_trees_in T) (hr.mono (by decide)) (ea_cons (ev_var 0 rfl (ea_cons (ev_ix (ev_var 2 rfl (ev_int (bix_tup (by rfl) (ea_nil ⟨(ws, t.f), rfl, h1, ?_⟩))))))))))
  rintro d ⟨xs, rfl, hl⟩
  refine exs_cons (ex_ret (ev_and (ev_cmp (by decide +kernel) (ev_var 3 rfl (ev_non (bo_notN (is_t ?_)))))))
  refine ev_one (ev_cmp (by decide +kernel) (ev_callB T.f_len (by decide +kernel) (ea_cons (ev_var 3 rfl (ea_nil (bc_lenL (ev_ix (ev_var 1 rfl (ev_ix (ev_var 2 rfl (ev_int (bix_tup (by rfl) (bix_tup (atI_nat (nsI_at h3)) (bo_eq ?_))))))))))))))
  show D.bl _ = D.bl true
  rw [show xs.length = t.f.len from hl, decide_eq_true rfl]
abbrev cThing (C : Addr) : Con := ⟨List Nat × List Nat × Th, fun x => [.dat (kD C x.1), .dat (rackD x.2.1), .dat (thD x.2.2)], fun x => ThOk x.1 x.2.1 x.2.2 ∧ RkOk x.2.1, fun _ d => d = .bl true⟩
theorem ok_is_thing (T : Txt K mg) : DefOk P w K mg base 7 "is_thing" (cThing (CK K)) := by
  refine m_is_thing T (fun _ => rfl) fun f cdv A outer s H E hr B (x : List Nat × List Nat × Th) (hx : ThOk x.1 x.2.1 x.2.2 ∧ RkOk x.2.1) => ?_
  refine exs_cons (ex_expr (ev_call (ok_sure_rack T) (hr.mono (by decide)) (ea_cons (ev_var 1 rfl (ea_nil ⟨x.2.1, rfl, hx.2, fun d _ => ?_⟩)))))
  exact exs_cons (ex_ret (ev_call (ok_is_among T) (hr.mono (by decide)) (ea_cons (ev_var 0 rfl (ea_cons (ev_var 1 rfl (ea_cons (ev_var 2 rfl (ea_nil ⟨x, rfl, hx.1, fun d h => h⟩)))))))))
end
end BA

set_option maxHeartbeats 4000000
namespace BA
open PySem PySem.Spec PyProof.Rows L2
theorem ints_at {r : List Int} {i : Nat} {x : Int} (h : r[i]? = some x) : (r.map D.int)[i]? = some (.int x) := by
  rw [List.getElem?_map, h]; rfl
/-- the i-th tree -/
theorem pre_cut {ws : List Nat} : ∀ {f : Fo} {i : Nat}, f.wf ws → i < f.len → ∃ (A : List Int) (g : Fo) (Z : List Int), f.code = A ++ (g.code ++ Z) ∧ A.length = f.pre i ∧ g.len = 1 ∧ g.wf ws ∧ f.pre (i + 1) = f.pre i + g.code.length
  | .nil, _, _, h => by cases h
  | .hole r, 0, hw, _ => ⟨[], .hole .nil, r.code, rfl, rfl, rfl, trivial, rfl⟩
  | .node m cs r, 0, hw, _ => ⟨[], .node m cs .nil, r.code, by show (m : Int) :: (cs.code ++ r.code) = (m : Int) :: (cs.code ++ [] ++ r.code); rw [List.append_nil], rfl, rfl, ⟨hw.1, hw.2.1, trivial⟩, by
      show 1 + cs.code.length + 0 = 0 + (cs.code ++ []).length.succ
      rw [List.append_nil]; omega⟩
  | .hole r, i + 1, hw, h => by
    obtain ⟨A, g, Z, e1, e2, e3, e4, e5⟩ := pre_cut (f := r) hw (Nat.lt_of_succ_lt_succ h)
    refine ⟨-1 :: A, g, Z, by show -1 :: r.code = _; rw [e1]; rfl, by show A.length + 1 = 1 + r.pre i; omega, e3, e4, by show 1 + r.pre (i + 1) = 1 + r.pre i + _; omega⟩
  | .node m cs r, i + 1, hw, h => by
    obtain ⟨A, g, Z, e1, e2, e3, e4, e5⟩ := pre_cut (f := r) hw.2.2 (Nat.lt_of_succ_lt_succ h)
    refine ⟨(m : Int) :: (cs.code ++ A), g, Z, by show (m : Int) :: (cs.code ++ r.code) = _; rw [e1]; simp, by show (cs.code ++ A).length + 1 = 1 + cs.code.length + r.pre i; rw [List.length_append]; omega, e3, e4, by show 1 + cs.code.length + r.pre (i + 1) = 1 + cs.code.length + r.pre i + _; omega⟩
section
variable {P : Program} {w : World} {K : PySem.W.Frag} {mg : Str → Option Value} {base : Heap}
structure TE4 where
  ws : List Nat
  A : List Int
  g : Fo
  Z : List Int
abbrev cTreeEnd (C : Addr) : Con := ⟨TE4, fun x => [.dat (kD C x.ws), .dat (.tup ((x.A ++ (x.g.code ++ x.Z)).map D.int)), .dat (.int (x.A.length : Nat))], fun x => x.g.len = 1 ∧ x.g.wf x.ws, fun x d => d = .int ((x.A.length + x.g.code.length : Nat))⟩
theorem ok_tree_end (T : Txt K mg) : DefOk P w K mg base 4 "tree_end" (cTreeEnd (CK K)) := by
  refine m_tree_end T (fun _ => rfl) fun f cdv A outer s H E hr B (x : TE4) (hx : x.g.len = 1 ∧ x.g.wf x.ws) => ?_
  obtain ⟨ws, A, g, Z⟩ := x
  obtain ⟨hg1, hg2⟩ := hx
  have hg1 : g.len = 1 := hg1
  refine exs_cons (ex_set 3 sc_tree_end.nd (ev_int ?_))
  refine exs_cons (ex_while (fun n δ' => ∃ (pend : Fo) (j : Nat), δ' = [.dat (kD (CK K) ws), .dat (.tup ((A ++ (g.code ++ Z)).map D.int)), .dat (.int (j : Nat)), .dat (.int (pend.len : Nat))] ∧ (A ++ (g.code ++ Z)).drop j = pend.code ++ Z ∧ pend.wf ws ∧ n = pend.code.length ∧ j + pend.code.length = A.length + g.code.length) g.code.length ?_ PassesOwn.never ?_)
  · exact ⟨g, A.length, by rw [hg1]; rfl, by rw [List.drop_left], hg2, rfl, rfl⟩
  · rintro n δ' ⟨pend, j, rfl, h1, h2, rfl, h4⟩
    refine et_cmp (by decide +kernel) (ev_var 3 rfl (ev_int (bo_gt (is_d (fun z => ?_) fun z => ?_))))
    · refine exs_cons (ex_set 3 sc_tree_end.nd (ev_bin (ev_var 3 rfl (ev_int (bo_sub ?_)))))
      cases pend with
      | nil => exact absurd z (by show ¬ (0 : Int) < ((0 : Nat) : Int); omega)
      | hole r =>
        have e := at_drop (x := -1) (r := r.code ++ Z) h1
        refine exs_cons (ex_if (et_cmp (by decide +kernel) (ev_ix (ev_var 1 rfl (ev_var 2 rfl (bix_tup (atI_nat (ints_at e)) (ev_gint T.i_HOLE (bo_ne (is_nddt rfl (exs_nil ?_))))))))))
        refine exs_cons (ex_set 2 sc_tree_end.nd (ev_bin (ev_var 2 rfl (ev_int (bo_add (exs_nil ?_))))))
        refine ⟨r.code.length, Nat.lt_succ_self _, r, j + 1, ?_, drop_succ h1, h2, rfl, ?_⟩
        · have e1 : (((Fo.hole r).len : Nat) : Int) - 1 = ((r.len : Nat) : Int) := by show ((r.len + 1 : Nat) : Int) - 1 = _; omega
          rw [e1]; rfl
        · have h4 : j + (r.code.length + 1) = A.length + g.code.length := h4
          omega
      | node m cs r =>
        have e := at_drop (x := (m : Int)) (r := cs.code ++ r.code ++ Z) h1
        have hm : m < ws.length := (List.getElem?_eq_some_iff.mp h2.1).1
        refine exs_cons (ex_if (et_cmp (by decide +kernel) (ev_ix (ev_var 1 rfl (ev_var 2 rfl (bix_tup (atI_nat (ints_at e)) (ev_gint T.i_HOLE (bo_ne (is_nddf (by omega) ?_)))))))))
        refine exs_cons (ex_set 3 sc_tree_end.nd (ev_bin (ev_var 3 rfl ?_)))
        refine ev_meth (ok_Kind_within T) (hr.mono (by decide)) (by decide) (ev_var 0 rfl ⟨_, rfl, ea_cons (ev_ix (ev_var 1 rfl (ev_var 2 rfl (bix_tup (atI_nat (ints_at e)) (ea_nil ⟨(ws, m), rfl, hm, ?_⟩)))))⟩)
        rintro d rfl
        refine bo_add (exs_nil ?_)
        refine exs_cons (ex_set 2 sc_tree_end.nd (ev_bin (ev_var 2 rfl (ev_int (bo_add (exs_nil ?_))))))
        have hl : (cs.app r).code.length = cs.code.length + r.code.length := by rw [Fo.code_app, List.length_append]
        have h4 : j + ((cs.code ++ r.code).length + 1) = A.length + g.code.length := h4
        rw [List.length_append] at h4
        refine ⟨(cs.app r).code.length, ?_, cs.app r, j + 1, ?_, ?_, Fo.wf_app h2.2.1 h2.2.2, rfl, by omega⟩
        · show _ < (cs.code ++ r.code).length + 1
          rw [List.length_append]; omega
        · have e2 : ws.getD m 0 = cs.len := by rw [List.getD_eq_getElem?_getD, h2.1]; rfl
          have e1 : (((Fo.node m cs r).len : Nat) : Int) - 1 + ((ws.getD m 0 : Nat) : Int) = (((cs.app r).len : Nat) : Int) := by rw [Fo.len_app, e2]; show ((r.len + 1 : Nat) : Int) - 1 + _ = _; omega
          show [_, _, _, Ent.dat (D.int ((((Fo.node m cs r).len : Nat) : Int) - 1 + ((ws.getD m 0 : Nat) : Int)))] = _
          rw [e1]; rfl
        · rw [drop_succ (x := (m : Int)) (r := cs.code ++ r.code ++ Z) h1, Fo.code_app]
    · have e0 : pend = .nil := len0 (by omega)
      subst e0
      refine exs_cons (ex_ret (ev_var 2 rfl ?_))
      show D.int _ = D.int _
      have h4 : j + 0 = A.length + g.code.length := h4
      congr 1
      show ((j : Nat) : Int) = ((A.length + g.code.length : Nat) : Int)
      omega
abbrev cSlot (C : Addr) : Con := ⟨List Nat × Fo × Nat, fun x => [.dat (kD C x.1), .dat (rowD x.2.1), .dat (.int (x.2.2 : Nat))], fun x => x.2.1.wf x.1 ∧ x.2.2 ≤ x.2.1.len ∧ x.2.2 < 1000000, fun x d => d = .int (x.2.1.pre x.2.2 : Nat)⟩
theorem ok_slot_begin (T : Txt K mg) : DefOk P w K mg base 5 "slot_begin" (cSlot (CK K)) := by
  refine m_slot_begin T (fun _ => rfl) fun f cdv A outer s H E hr B (x : List Nat × Fo × Nat) (hx : x.2.1.wf x.1 ∧ x.2.2 ≤ x.2.1.len ∧ x.2.2 < 1000000) => ?_
  obtain ⟨ws, f, n⟩ := x
  obtain ⟨h1, h2, h3⟩ : f.wf ws ∧ n ≤ f.len ∧ n < 1000000 := hx
  show Exs _ B _ [.dat (kD (CK K) ws), .dat (rowD f), .dat (.int (n : Nat)), .unb, .unb] ⟨fun _ => _, fun d => d = .int (f.pre n : Nat), fun _ => False, fun _ => False⟩
  refine exs_cons (ex_set 3 sc_slot_begin.nd (ev_int ?_))
  refine exs_cons (ex_for PassesOwn.never rfl (ei_rg1 T.f_range (ev_var 2 rfl ⟨_, rfl, by omega, by omega, ?_⟩)))
  refine ⟨fun i δ' => ∃ b : Ent, δ' = [.dat (kD (CK K) ws), .dat (rowD f), .dat (.int (n : Nat)), .dat (.int (f.pre i : Nat)), b], ⟨_, rfl⟩, ?_, ?_⟩
  · rintro i d δ' hd ⟨b, rfl⟩
    have hi : i < n := by
      have := (List.getElem?_eq_some_iff.mp hd).1
      rw [List.length_map, List.length_range] at this
      omega
    rw [List.getElem?_map] at hd
    obtain ⟨y, _, rfl⟩ := Option.map_eq_some_iff.mp hd
    obtain ⟨A, g, Z, e1, e2, e3, e4, e5⟩ := pre_cut (i := i) h1 (by omega)
    refine eg_name 4 sc_slot_begin.nd ?_
    refine exs_cons (ex_set 3 sc_slot_begin.nd (ev_call (ok_tree_end T) (hr.mono (by decide)) (ea_cons (ev_var 0 rfl (ea_cons (ev_var 1 rfl (ea_cons (ev_var 3 rfl (ea_nil ⟨⟨ws, A, g, Z⟩, ?_, ⟨e3, e4⟩, ?_⟩)))))))))
    · show [Ent.dat (kD (CK K) ws), Ent.dat (.tup (f.code.map D.int)), Ent.dat (D.int ((f.pre i : Nat) : Int))] = [Ent.dat (kD (CK K) ws), Ent.dat (.tup ((A ++ (g.code ++ Z)).map D.int)), Ent.dat (D.int ((A.length : Nat) : Int))]
      rw [← e1, e2]
    · rintro d rfl
      refine exs_nil ⟨.dat (.int (0 + ((y : Nat) : Int))), ?_⟩
      show [_, _, _, Ent.dat (D.int ((A.length + g.code.length : Nat) : Int)), _] = [_, _, _, Ent.dat (D.int ((f.pre (i + 1) : Nat) : Int)), _]
      rw [e5, e2]
  · rintro δ' ⟨b, rfl⟩
    refine exs_cons (ex_ret (ev_var 3 rfl ?_))
    have e : (rgD 0 ((n : Nat) : Int)).length = n := by rw [List.length_map, List.length_range]; omega
    show D.int _ = D.int _
    rw [e]
/-- the forms that an opening of a place with so many trees makes -/
abbrev opF (ws : List Nat) (many : Nat) : List Nat := ws.map (many - 1 + ·)
abbrev cOpened (C : Addr) : Con := ⟨List Nat × Nat, fun x => [.dat (kD C x.1), .dat (.int (x.2 : Nat))], fun x => x.1.length < 100 ∧ 0 < x.2, fun x d => d = rackD (opF x.1 x.2)⟩
theorem ok_opened_forms (T : Txt K mg) : DefOk P w K mg base 4 "opened_forms" (cOpened (CK K)) := by
  refine m_opened_forms T (fun _ => rfl) fun f cdv A outer s H E hr B (x : List Nat × Nat) (hx : x.1.length < 100 ∧ 0 < x.2) => ?_
  obtain ⟨ws, n⟩ := x
  obtain ⟨h1, h2⟩ : ws.length < 100 ∧ 0 < n := hx
  show Exs _ B _ [.dat (kD (CK K) ws), .dat (.int (n : Nat)), .unb] ⟨fun _ => _, fun d => d = rackD (opF ws n), fun _ => False, fun _ => False⟩
  refine exs_cons (ex_ret (ev_callTy (T := "tuple") T.f_tuple (by decide +kernel) (ea_cons (ev_lcG (own := [("maker", 2)]) rfl sc_opened_forms.nd (blkOk_by (by show blkC N_opened_forms (defScope s_opened_forms) _ _ = true; decide +kernel)) (takes_name 2 sc_opened_forms.nd rfl (by intro _ _ _ _ _; exact .inl rfl) (by intro _ _ _ _ _; exact .inr rfl)) (ei_rg1 T.f_range (ev_lenK (ok_Kind_len T) (hr.mono (by decide)) T.f_len (ev_var 0 rfl ⟨ws, rfl, h1, _, rfl, by omega, by omega, ?_⟩)))))))
  refine ⟨fun _ _ => trivial, fun i acc => acc = ((opF ws n).take i).map (fun x => D.int ((x : Nat) : Int)), rfl, fun i d acc hd hi => ?_, fun acc hacc => ?_⟩
  · have hil : i < ws.length := by
      have := (List.getElem?_eq_some_iff.mp hd).1
      rw [List.length_map, List.length_range] at this
      omega
    rw [List.getElem?_map] at hd
    obtain ⟨y, hy, rfl⟩ := Option.map_eq_some_iff.mp hd
    obtain ⟨_, rfl⟩ := List.getElem?_eq_some_iff.mp hy
    rw [List.getElem_range]
    refine ⟨by rw [hi, List.length_map, List.length_take]; exact szl (by omega), fun s H0 C cl fp => ets_nil (t_t fun s H0 C cl fp => ?_)⟩
    refine ev_bin (ev_bin (ev_var 1 rfl (ev_int (bo_sub ?_))))
    refine ev_meth (ok_Kind_within T) (hr.mono (by decide)) (by decide) (ev_var 0 rfl ⟨_, rfl, ea_cons (ev_var 2 rfl (ea_nil ⟨(ws, i), ?_, hil, ?_⟩))⟩)
    · show [Ent.dat (kD (CK K) ws), Ent.dat (D.int (0 + ((i : Nat) : Int)))] = [Ent.dat (kD (CK K) ws), Ent.dat (D.int ((i : Nat) : Int))]
      rw [Int.zero_add]
    · rintro d rfl
      refine bo_add ?_
      show acc ++ [_] = _
      have e : (opF ws n)[i]? = some (n - 1 + ws.getD i 0) := by rw [List.getElem?_map, Mv.grD hil]; rfl
      rw [hi, List.take_add_one, e, List.map_append]
      show _ ++ [D.int (((n : Nat) : Int) - 1 + ((ws.getD i 0 : Nat) : Int))] = _ ++ [D.int ((n - 1 + ws.getD i 0 : Nat) : Int)]
      congr 3
      omega
  · subst hacc
    refine ea_nil (bc_tuple ?_)
    show D.tup _ = D.tup _
    congr 1
    rw [List.length_map, List.length_range, show ((((ws.length : Nat) : Int) - 0).toNat) = ws.length by omega, List.take_of_length_le (by rw [List.length_map]; exact Nat.le_refl _)]
    show _ = List.map D.int (List.map (fun x => ((x : Nat) : Int)) (opF ws n))
    simp only [opF, List.map_map]
    rfl
end
end BA

set_option maxHeartbeats 4000000
namespace BA
open PySem PySem.Spec PyProof.Rows L2
abbrev nd (r : List Nat) : List D := (nsI r).map D.int
theorem nd_app (r s : List Nat) : nd (r ++ s) = nd r ++ nd s := by unfold nd nsI; rw [List.map_append, List.map_append]
theorem nd_take (r : List Nat) (n : Nat) : (nd r).take n = nd (r.take n) := by unfold nd nsI; rw [← List.map_take, ← List.map_take]
theorem nd_drop (r : List Nat) (n : Nat) : (nd r).drop n = nd (r.drop n) := by unfold nd nsI; rw [← List.map_drop, ← List.map_drop]
theorem nd_pl (r : List Nat) : D.pl (rackD r) 60 = true := D.pls_ints _ 59
abbrev nc (n : Nat) : D := .int (n : Nat)
theorem opF_length (ws : List Nat) (m : Nat) : (opF ws m).length = ws.length := List.length_map _
section
variable {P : Program} {w : World} {K : PySem.W.Frag} {mg : Str → Option Value} {base : Heap}
structure CF where
  ws : List Nat
  A : List Nat
  m : Nat
  Z : List Nat
  s : Nat
abbrev CF.ok (x : CF) : Prop := 0 < x.ws.length ∧ x.ws.length < 100 ∧ 0 < x.m ∧ x.A.length < 1000
abbrev cClosed (C : Addr) : Con := ⟨CF, fun x => [.dat (kD C x.ws), .dat (rackD (x.A ++ (opF x.ws x.m ++ x.Z))), .dat (nc x.A.length)], CF.ok, fun x d => d = nc x.m⟩
theorem ok_closed_form (T : Txt K mg) : DefOk P w K mg base 5 "closed_form" (cClosed (CK K)) := by
  refine m_closed_form T (fun _ => rfl) fun f cdv A outer s H E hr B (x : CF) (hx : x.ok) => ?_
  obtain ⟨ws, A, m, Z, sl⟩ := x
  obtain ⟨h0, h1, h2, h3⟩ : 0 < ws.length ∧ ws.length < 100 ∧ 0 < m ∧ A.length < 1000 := hx
  show Exs _ B _ [.dat (kD (CK K) ws), .dat (rackD (A ++ (opF ws m ++ Z))), .dat (nc A.length), .unb] ⟨fun _ => _, fun d => d = nc m, fun _ => False, fun _ => False⟩
  have hat : (nd (A ++ (opF ws m ++ Z)))[A.length]? = some (nc (m - 1 + ws.getD 0 0)) := by
    refine nsI_at ?_
    rw [List.getElem?_append_right (Nat.le_refl _), Nat.sub_self, List.getElem?_append_left (by rw [opF_length]; exact h0), List.getElem?_map, Mv.grD h0]
    rfl
  have hl : (nd (A ++ (opF ws m ++ Z))).length = A.length + (ws.length + Z.length) := by rw [nsI_len, List.length_append, List.length_append, opF_length]
  refine exs_cons (ex_if (et_not (et_ev (by intro _; rfl) (ev_call (ok_is_whole T) (hr.mono (by decide)) (ea_cons (ev_var 2 rfl (ea_cons (ev_int (ea_cons (ev_bin ?_))))))))))
  refine ev_callB (id := "len") T.f_len (by decide +kernel) (ea_cons (ev_var 1 rfl (ea_nil (bc_lenT (ev_lenK (ok_Kind_len T) (hr.mono (by decide)) T.f_len (ev_var 0 rfl ⟨ws, rfl, h1, bo_sub (ea_nil ⟨(_, _), rfl, trivial, ?_⟩)⟩))))))
  rintro d rfl
  refine is_ndt (show (0 : Int) ≤ ((A.length : Nat) : Int) ∧ ((A.length : Nat) : Int) ≤ (((nd (A ++ (opF ws m ++ Z))).length : Nat) : Int) - ((ws.length : Nat) : Int) by rw [hl]; omega) (exs_nil ?_)
  refine exs_cons (ex_set 3 sc_closed_form.nd (ev_bin (ev_bin (ev_ix (ev_var 1 rfl (ev_var 2 rfl (bix_tup (atI_nat hat) ?_)))))))
  refine ev_meth (ok_Kind_within T) (hr.mono (by decide)) (by decide) (ev_var 0 rfl ⟨_, rfl, ea_cons (ev_int (ea_nil ⟨(ws, 0), rfl, h0, ?_⟩))⟩)
  rintro d rfl
  refine bo_sub (ev_int (bo_add ?_))
  have e1 : ((m - 1 + ws.getD 0 0 : Nat) : Int) - ((ws.getD 0 0 : Nat) : Int) + 1 = ((m : Nat) : Int) := by omega
  rw [e1]
  refine exs_cons (ex_if (et_w (ew_or (et_cmp (by decide +kernel) (ev_var 3 rfl (ev_int (bo_lt (is_df (by omega) ?_))))))))
  refine ew_or1 (et_cmp (by decide +kernel) (ev_sl (ev_var 1 rfl (eo_some (ev_var 2 rfl ⟨_, rfl, eo_some (ev_bin (ev_var 2 rfl ?_))⟩)))))
  refine ev_lenK (ok_Kind_len T) (hr.mono (by decide)) T.f_len (ev_var 0 rfl ⟨ws, rfl, h1, bo_add ⟨_, rfl, bsl_tup ?_⟩⟩)
  have e2 : cutD (nd (A ++ (opF ws m ++ Z))) (some ((A.length : Nat) : Int)) (some (((A.length : Nat) : Int) + ((ws.length : Nat) : Int))) = nd (opF ws m) := by
    rw [cut_mid _ (by omega) (by omega), show (((A.length : Nat) : Int)).toNat = A.length by omega, show (((A.length : Nat) : Int) + ((ws.length : Nat) : Int)).toNat - A.length = ws.length by omega, nd_drop, nd_take, List.drop_left, List.take_left' (by rw [opF_length])]
  rw [e2]
  refine ev_call (ok_opened_forms T) (hr.mono (by decide)) (ea_cons (ev_var 0 rfl (ea_cons (ev_var 3 rfl (ea_nil ⟨(ws, m), rfl, ⟨h1, h2⟩, ?_⟩)))))
  rintro d rfl
  refine bo_differ (nd_pl _) hr (is_f (exs_nil ?_))
  exact exs_cons (ex_ret (ev_var 3 rfl rfl))
abbrev cOrder : Con := ⟨List Nat × List Nat, fun x => [.dat (rackD x.1), .dat (rackD x.2)], fun x => Pm x.1.length x.2 ∧ x.1.length ≤ 400, fun _ d => d = .bl true⟩
theorem nsI_mem {ps : List Nat} {y : Nat} : ((y : Nat) : Int) ∈ nsI ps ↔ y ∈ ps := by
  unfold nsI
  rw [List.mem_map]
  constructor
  · rintro ⟨a, h, e⟩
    have : a = y := by omega
    exact this ▸ h
  · exact fun h => ⟨y, h, rfl⟩
theorem ok_is_order (T : Txt K mg) : DefOk P w K mg base 2 "is_order" cOrder := by
  refine m_is_order T (fun _ => rfl) fun f cdv A outer s H E hr B (x : List Nat × List Nat) (hx : Pm x.1.length x.2 ∧ x.1.length ≤ 400) => ?_
  obtain ⟨r, ps⟩ := x
  obtain ⟨h1, h2⟩ : Pm r.length ps ∧ r.length ≤ 400 := hx
  show Exs _ B _ [.dat (rackD r), .dat (rackD ps), .unb, .unb] ⟨fun _ => _, fun d => d = .bl true, fun _ => False, fun _ => False⟩
  refine exs_cons (ex_if (et_w (ew_or (et_not (et_ev (by intro _; rfl) (ev_isi (k := true) (t := "tuple") (T := "tuple") T.f_isinstance T.f_tuple (by decide +kernel) (by decide +kernel) (ev_var 1 rfl ⟨rfl, is_nt ?_⟩)))))))
  refine ew_or1 (et_cmp (by decide +kernel) (ev_callB (id := "len") T.f_len (by decide +kernel) (ea_cons (ev_var 1 rfl (ea_nil (bc_lenT (ev_callB (id := "len") T.f_len (by decide +kernel) (ea_cons (ev_var 0 rfl (ea_nil (bc_lenT (bo_ne (is_nddt ?_ (exs_nil ?_))))))))))))))
  · rw [nsI_len, nsI_len, h1.len]
  refine exs_cons (ex_ownDict 2 sc_is_order.nd ?_)
  refine exs_cons (ex_for PassesOwn.never rfl (ei_tup (ev_var 1 rfl ⟨_, rfl, ?_⟩)))
  refine ⟨fun i δ' => ∃ b : Ent, δ' = [.dat (rackD r), .dat (rackD ps), .own (.t (nsI (ps.take i))) [], b], ⟨_, rfl⟩, ?_, ?_⟩
  · rintro i d δ' hd ⟨b, rfl⟩
    rw [List.getElem?_map, List.getElem?_map] at hd
    obtain ⟨_, k1, rfl⟩ := Option.map_eq_some_iff.mp hd
    obtain ⟨y, k2, rfl⟩ := Option.map_eq_some_iff.mp k1
    have hil := (List.getElem?_eq_some_iff.mp k2).1
    have hl := h1.len
    have hy : y ∉ ps.take i := fun z => by
      obtain ⟨j, hj⟩ := List.getElem?_of_mem z
      have hji : j < i := by have := (List.getElem?_eq_some_iff.mp hj).1; rw [List.length_take] at this; omega
      rw [List.getElem?_take_of_lt hji] at hj
      have := getElem?_inj h1.nd hj k2
      omega
    refine eg_name 3 sc_is_order.nd ?_
    refine exs_cons (ex_if (et_w (ew_or (et_not (et_ev (by intro _; rfl) (ev_call (ok_is_whole T) (hr.mono (by decide)) (ea_cons (ev_var 3 rfl (ea_cons (ev_int (ea_cons (ev_bin ?_))))))))))))
    refine ev_callB (id := "len") T.f_len (by decide +kernel) (ea_cons (ev_var 0 rfl (ea_nil (bc_lenT (ev_int (bo_sub (ea_nil ⟨(_, _), rfl, trivial, ?_⟩)))))))
    rintro d rfl
    refine is_ndt (below (by rw [nsI_len]; exact h1.lt y (List.mem_of_getElem? k2))) ?_
    refine ew_or1 (et_inOwn 2 hr rfl (ev_var 3 rfl ⟨_, rfl, ?_⟩))
    rw [decide_eq_false (fun z => hy (nsI_mem.mp z))]
    refine t_f (exs_nil ?_)
    refine exs_cons (ex_putOwn 2 hr rfl (by rw [List.length_map, List.length_take]; exact szl (by omega)) (ev_var 3 rfl ⟨_, rfl, fun z => hy (nsI_mem.mp z), exs_nil ⟨.dat (.int ((y : Nat) : Int)), ?_⟩⟩))
    show [_, _, Ent.own (.t (nsI (ps.take i) ++ [((y : Nat) : Int)])) [], _] = [_, _, Ent.own (.t (nsI (ps.take (i + 1)))) [], _]
    rw [List.take_add_one, k2]
    unfold nsI
    rw [List.map_append]
    rfl
  · rintro δ' ⟨b, rfl⟩
    exact exs_cons (ex_ret (ev_bl rfl))
abbrev cCanClose (C : Addr) : Con := ⟨CF, fun x => [.dat (kD C x.ws), .dat (rackD (x.A ++ (opF x.ws x.m ++ x.Z))), .dat (nc x.A.length), .dat (nc x.s)], fun x => CF.ok x ∧ x.s < x.m, fun x d => d = .bl true⟩
theorem ok_can_close (T : Txt K mg) : DefOk P w K mg base 6 "can_close" (cCanClose (CK K)) := by
  refine m_can_close T (fun _ => rfl) fun f cdv A outer s H E hr B (x : CF) (hx : x.ok ∧ x.s < x.m) => ?_
  refine exs_cons (ex_set 4 sc_can_close.nd (ev_call (ok_closed_form T) (hr.mono (by decide)) (ea_cons (ev_var 0 rfl (ea_cons (ev_var 1 rfl (ea_cons (ev_var 2 rfl (ea_nil ⟨x, rfl, hx.1, ?_⟩)))))))))
  rintro d rfl
  refine exs_cons (ex_ret (ev_and (ev_cmp (by decide +kernel) (ev_var 4 rfl (ev_non (bo_notN (is_t ?_)))))))
  refine ev_one (ev_call (ok_is_whole T) (hr.mono (by decide)) (ea_cons (ev_var 3 rfl (ea_cons (ev_int (ea_cons (ev_bin (ev_var 4 rfl (ev_int (bo_sub (ea_nil ⟨(_, _), rfl, trivial, ?_⟩)))))))))))
  rintro d rfl
  show D.bl _ = D.bl true
  rw [decide_eq_true (below hx.2)]
end
end BA

set_option maxHeartbeats 4000000
namespace BA
open PySem PySem.Spec PyProof.Rows L2
section
variable {P : Program} {w : World} {K : PySem.W.Frag} {mg : Str → Option Value} {base : Heap}
structure ST where
  ws : List Nat
  r : List Nat
  st : Stp
  r' : List Nat
abbrev ST.ok (x : ST) : Prop := 0 < x.ws.length ∧ x.ws.length < 100 ∧ RkOk x.r ∧ RkMv x.ws x.st x.r x.r'
abbrev cCanDo (C : Addr) : Con := ⟨ST, fun x => [.dat (kD C x.ws), .dat (rackD x.r), .dat (stD x.st)], ST.ok, fun x d => d = .bl true⟩
theorem ok_can_do (T : Txt K mg) : DefOk P w K mg base 7 "can_do" (cCanDo (CK K)) := by
  refine m_can_do T (fun _ => rfl) fun f cdv A outer s H E hr B (x : ST) (hx : x.ok) => ?_
  obtain ⟨ws, r, st, r'⟩ := x
  obtain ⟨h0, h1, h2, h3⟩ : 0 < ws.length ∧ ws.length < 100 ∧ RkOk r ∧ RkMv ws st r r' := hx
  show Exs _ B _ [.dat (kD (CK K) ws), .dat (rackD r), .dat (stD st), .unb, .unb, .unb] ⟨fun _ => _, fun d => d = .bl true, fun _ => False, fun _ => False⟩
  refine exs_cons (ex_expr (ev_call (ok_rack_unless T) (hr.mono (by decide)) (ea_cons (ev_var 1 rfl (ea_nil ⟨r, rfl, h2, fun d _ => ?_⟩)))))
  cases st with
  | ord ps =>
    refine exs_cons (ex_if (et_w (ew_or (et_not (et_ev (by intro _; rfl) (ev_isi (k := true) (t := "tuple") (T := "tuple") T.f_isinstance T.f_tuple (by decide +kernel) (by decide +kernel) (ev_var 2 rfl ⟨rfl, is_nt ?_⟩)))))))
    refine ew_or1 (et_not (et_chain (by decide +kernel) (ev_int (ev_callB (id := "len") T.f_len (by decide +kernel) (ea_cons (ev_var 2 rfl (ea_nil (bc_lenT (bo_le (is_dt (show (2 : Int) ≤ ((2 : Nat) : Int) by decide) (ev_int (bo_le ?_))))))))))))
    refine is_ndt (show ((2 : Nat) : Int) ≤ (3 : Int) by decide) (exs_nil ?_)
    refine exs_cons (ex_if (et_cmp (by decide +kernel) (ev_ix (ev_var 2 rfl (ev_int (bix_tup (by rfl) (ev_str (bo_eqS (b := true) (by decide +kernel) (is_t ?_)))))))))
    refine exs_cons (ex_ret (ev_and (ev_cmp (by decide +kernel) (ev_callB (id := "len") T.f_len (by decide +kernel) (ea_cons (ev_var 2 rfl (ea_nil (bc_lenT (ev_int (bo_eq (is_dt rfl ?_)))))))))))
    exact ev_one (ev_call (ok_is_order T) (hr.mono (by decide)) (ea_cons (ev_var 1 rfl (ea_cons (ev_ix (ev_var 2 rfl (ev_int (bix_tup (by rfl) (ea_nil ⟨(r, ps), rfl, ⟨h3.1, h2.1⟩, fun d h => h⟩)))))))))
  | op p sl =>
    obtain ⟨X, m, Z, rfl, rfl, hs, rfl⟩ := h3
    refine exs_cons (ex_if (et_w (ew_or (et_not (et_ev (by intro _; rfl) (ev_isi (k := true) (t := "tuple") (T := "tuple") T.f_isinstance T.f_tuple (by decide +kernel) (by decide +kernel) (ev_var 2 rfl ⟨rfl, is_nt ?_⟩)))))))
    refine ew_or1 (et_not (et_chain (by decide +kernel) (ev_int (ev_callB (id := "len") T.f_len (by decide +kernel) (ea_cons (ev_var 2 rfl (ea_nil (bc_lenT (bo_le (is_dt (show (2 : Int) ≤ ((3 : Nat) : Int) by decide) (ev_int (bo_le ?_))))))))))))
    refine is_ndt (show ((3 : Nat) : Int) ≤ (3 : Int) by decide) (exs_nil ?_)
    refine exs_cons (ex_if (et_cmp (by decide +kernel) (ev_ix (ev_var 2 rfl (ev_int (bix_tup (by rfl) (ev_str (bo_eqS (b := false) (by decide +kernel) (is_f (exs_nil ?_))))))))))
    refine exs_cons (ex_if (et_cmp (by decide +kernel) (ev_callB (id := "len") T.f_len (by decide +kernel) (ea_cons (ev_var 2 rfl (ea_nil (bc_lenT (ev_int (bo_ne (is_nddt rfl (exs_nil ?_)))))))))))
    refine exs_cons (ex_asg (ev_var 2 rfl (eg_tup rfl (egs_cons (eg_name 3 sc_can_do.nd (egs_cons (eg_name 4 sc_can_do.nd (egs_cons (eg_name 5 sc_can_do.nd (egs_nil ?_))))))))))
    refine exs_cons (ex_if (et_cmp (by decide +kernel) (ev_var 3 rfl (ev_str (bo_eqS (b := true) (by decide +kernel) (is_t ?_))))))
    refine exs_cons (ex_ret (ev_and (ev_call (ok_is_whole T) (hr.mono (by decide)) (ea_cons (ev_var 4 rfl (ea_cons (ev_int (ea_cons (ev_bin ?_)))))))))
    refine ev_callB (id := "len") T.f_len (by decide +kernel) (ea_cons (ev_var 1 rfl (ea_nil (bc_lenT (ev_int (bo_sub (ea_nil ⟨(_, _), rfl, trivial, ?_⟩)))))))
    rintro d rfl
    refine is_dt (below (by rw [nsI_len, List.length_append, List.length_cons]; omega)) ?_
    have hat : (nd (X ++ m :: Z))[X.length]? = some (nc m) := nsI_at (by rw [List.getElem?_append_right (Nat.le_refl _), Nat.sub_self]; rfl)
    refine ev_one (ev_call (ok_is_whole T) (hr.mono (by decide)) (ea_cons (ev_var 5 rfl (ea_cons (ev_int (ea_cons (ev_bin (ev_ix (ev_var 1 rfl (ev_var 4 rfl (bix_tup (atI_nat hat) (ev_int (bo_sub (ea_nil ⟨(_, _), rfl, trivial, ?_⟩))))))))))))))
    rintro d rfl
    show D.bl _ = D.bl true
    rw [decide_eq_true (below hs)]
  | cl p sl =>
    obtain ⟨X, m, Z, rfl, rfl, hs, rfl⟩ := h3
    refine exs_cons (ex_if (et_w (ew_or (et_not (et_ev (by intro _; rfl) (ev_isi (k := true) (t := "tuple") (T := "tuple") T.f_isinstance T.f_tuple (by decide +kernel) (by decide +kernel) (ev_var 2 rfl ⟨rfl, is_nt ?_⟩)))))))
    refine ew_or1 (et_not (et_chain (by decide +kernel) (ev_int (ev_callB (id := "len") T.f_len (by decide +kernel) (ea_cons (ev_var 2 rfl (ea_nil (bc_lenT (bo_le (is_dt (show (2 : Int) ≤ ((3 : Nat) : Int) by decide) (ev_int (bo_le ?_))))))))))))
    refine is_ndt (show ((3 : Nat) : Int) ≤ (3 : Int) by decide) (exs_nil ?_)
    refine exs_cons (ex_if (et_cmp (by decide +kernel) (ev_ix (ev_var 2 rfl (ev_int (bix_tup (by rfl) (ev_str (bo_eqS (b := false) (by decide +kernel) (is_f (exs_nil ?_))))))))))
    refine exs_cons (ex_if (et_cmp (by decide +kernel) (ev_callB (id := "len") T.f_len (by decide +kernel) (ea_cons (ev_var 2 rfl (ea_nil (bc_lenT (ev_int (bo_ne (is_nddt rfl (exs_nil ?_)))))))))))
    refine exs_cons (ex_asg (ev_var 2 rfl (eg_tup rfl (egs_cons (eg_name 3 sc_can_do.nd (egs_cons (eg_name 4 sc_can_do.nd (egs_cons (eg_name 5 sc_can_do.nd (egs_nil ?_))))))))))
    refine exs_cons (ex_if (et_cmp (by decide +kernel) (ev_var 3 rfl (ev_str (bo_eqS (b := false) (by decide +kernel) (is_f (exs_nil ?_)))))))
    refine exs_cons (ex_ret (ev_and (ev_cmp (by decide +kernel) (ev_var 3 rfl (ev_str (bo_eqS (b := true) (by decide +kernel) (is_t ?_)))))))
    have hl := h2.1
    rw [List.length_append] at hl
    exact ev_one (ev_call (ok_can_close T) (hr.mono (by decide)) (ea_cons (ev_var 0 rfl (ea_cons (ev_var 1 rfl (ea_cons (ev_var 4 rfl (ea_cons (ev_var 5 rfl (ea_nil ⟨⟨ws, X, m, Z, sl⟩, rfl, ⟨⟨h0, h1, by show 0 < m; omega, by show X.length < 1000; omega⟩, hs⟩, fun d h => h⟩))))))))))
abbrev cForms (C : Addr) : Con := ⟨ST, fun x => [.dat (kD C x.ws), .dat (rackD x.r), .dat (stD x.st)], ST.ok, fun x d => d = rackD x.r'⟩
theorem ok_forms_after (T : Txt K mg) : DefOk P w K mg base 6 "forms_after" (cForms (CK K)) := by
  refine m_forms_after T (fun _ => rfl) fun f cdv A outer s H E hr B (x : ST) (hx : x.ok) => ?_
  obtain ⟨ws, r, st, r'⟩ := x
  obtain ⟨h0, h1, h2, h3⟩ : 0 < ws.length ∧ ws.length < 100 ∧ RkOk r ∧ RkMv ws st r r' := hx
  show Exs _ B _ [.dat (kD (CK K) ws), .dat (rackD r), .dat (stD st), .unb] ⟨fun _ => _, fun d => d = rackD r', fun _ => False, fun _ => False⟩
  cases st with
  | ord ps =>
    obtain ⟨h3, rfl⟩ := h3
    refine exs_cons (ex_if (et_cmp (by decide +kernel) (ev_ix (ev_var 2 rfl (ev_int (bix_tup (by rfl) (ev_str (bo_eqS (b := true) (by decide +kernel) (is_t ?_)))))))))
    refine exs_cons (ex_ret (ev_callTy (T := "tuple") T.f_tuple (by decide +kernel) (ea_cons (ev_lcG (own := [("place", 3)]) rfl sc_forms_after.nd (blkOk_by (by show blkC N_forms_after (defScope s_forms_after) _ _ = true; decide +kernel)) (takes_name 3 sc_forms_after.nd rfl (by intro _ _ _ _ _; exact .inl rfl) (by intro _ _ _ _ _; exact .inr rfl)) (ei_tup (ev_ix (ev_var 2 rfl (ev_int (bix_tup (by rfl) ⟨_, rfl, ?_⟩)))))))))
    refine ⟨fun _ _ => trivial, fun i acc => acc = nd ((ps.take i).map fun p => r.getD p 0), rfl, fun i d acc hd hi => ?_, fun acc hacc => ?_⟩
    · rw [List.getElem?_map, List.getElem?_map] at hd
      obtain ⟨_, k1, rfl⟩ := Option.map_eq_some_iff.mp hd
      obtain ⟨y, k2, rfl⟩ := Option.map_eq_some_iff.mp k1
      have hil := (List.getElem?_eq_some_iff.mp k2).1
      have hl := h3.len
      have hl2 := h2.1
      have hy := h3.lt y (List.mem_of_getElem? k2)
      refine ⟨by rw [hi, nsI_len, List.length_map, List.length_take]; exact szl (by omega), fun s H0 C cl fp => ets_nil (t_t fun s H0 C cl fp => ?_)⟩
      refine ev_ix (ev_var 1 rfl (ev_var 3 rfl (bix_tup (atI_nat (nsI_at (List.getElem?_eq_getElem hy))) ?_)))
      have e : r.getD y 0 = r[y] := by rw [List.getD_eq_getElem?_getD, List.getElem?_eq_getElem hy]; rfl
      show acc ++ [nc r[y]] = _
      rw [hi, List.take_add_one, k2, List.map_append, nd_app]
      show _ = _ ++ [nc (r.getD y 0)]
      rw [e]
    · subst hacc
      refine ea_nil (bc_tuple ?_)
      show D.tup _ = D.tup _
      rw [nsI_len, List.take_length]
  | op p sl =>
    obtain ⟨X, m, Z, rfl, rfl, hs, rfl⟩ := h3
    have hl := h2.1
    have hl3 : X.length + (Z.length + 1) ≤ 400 := by rw [List.length_append, List.length_cons] at hl; exact hl
    refine exs_cons (ex_if (et_cmp (by decide +kernel) (ev_ix (ev_var 2 rfl (ev_int (bix_tup (by rfl) (ev_str (bo_eqS (b := false) (by decide +kernel) (is_f (exs_nil ?_))))))))))
    refine exs_cons (ex_set 3 sc_forms_after.nd (ev_ix (ev_var 2 rfl (ev_int (bix_tup (by rfl) ?_)))))
    refine exs_cons (ex_if (et_cmp (by decide +kernel) (ev_ix (ev_var 2 rfl (ev_int (bix_tup (by rfl) (ev_str (bo_eqS (b := true) (by decide +kernel) (is_t ?_)))))))))
    have hat : (nd (X ++ m :: Z))[X.length]? = some (nc m) := nsI_at (by rw [List.getElem?_append_right (Nat.le_refl _), Nat.sub_self]; rfl)
    refine exs_cons (ex_ret (ev_bin (ev_bin (ev_sl (ev_var 1 rfl (eo_none (eo_some (ev_var 3 rfl ⟨_, rfl, bsl_tup ?_⟩))))))))
    have e1 : cutD (nd (X ++ m :: Z)) none (some ((X.length : Nat) : Int)) = nd X := by rw [cut_to _ (by omega), Int.toNat_natCast, nd_take, List.take_left]
    rw [e1]
    refine ev_call (ok_opened_forms T) (hr.mono (by decide)) (ea_cons (ev_var 0 rfl (ea_cons (ev_ix (ev_var 1 rfl (ev_var 3 rfl (bix_tup (atI_nat hat) (ea_nil ⟨(ws, m), rfl, ⟨h1, by show 0 < m; omega⟩, ?_⟩))))))))
    rintro d rfl
    refine bo_addT (by rw [nsI_len, nsI_len, opF_length]; exact sz (by show X.length + ws.length ≤ 1000000; omega)) ?_
    refine ev_sl (ev_var 1 rfl (eo_some (ev_bin (ev_var 3 rfl (ev_int (bo_add ⟨_, rfl, eo_none (bsl_tup ?_)⟩))))))
    have e2 : cutD (nd (X ++ m :: Z)) (some (((X.length : Nat) : Int) + 1)) none = nd Z := by
      rw [cut_from _ (by omega), show (((X.length : Nat) : Int) + 1).toNat = X.length + 1 by omega, nd_drop, List.drop_append, List.drop_of_length_le (by omega), show X.length + 1 - X.length = 1 by omega]
      rfl
    rw [e2]
    refine bo_addT (by rw [List.length_append, nsI_len, nsI_len, nsI_len, opF_length]; exact sz (by show X.length + ws.length + Z.length ≤ 1000000; omega)) ?_
    show D.tup (nd X ++ nd (opF ws m) ++ nd Z) = D.tup (nd _)
    rw [← nd_app, ← nd_app, List.append_assoc]
  | cl p sl =>
    obtain ⟨X, m, Z, rfl, rfl, hs, rfl⟩ := h3
    have hl := h2.1
    have hl3 : X.length + (ws.length + Z.length) ≤ 400 := by rw [List.length_append, List.length_append, List.length_map] at hl; exact hl
    refine exs_cons (ex_if (et_cmp (by decide +kernel) (ev_ix (ev_var 2 rfl (ev_int (bix_tup (by rfl) (ev_str (bo_eqS (b := false) (by decide +kernel) (is_f (exs_nil ?_))))))))))
    refine exs_cons (ex_set 3 sc_forms_after.nd (ev_ix (ev_var 2 rfl (ev_int (bix_tup (by rfl) ?_)))))
    refine exs_cons (ex_if (et_cmp (by decide +kernel) (ev_ix (ev_var 2 rfl (ev_int (bix_tup (by rfl) (ev_str (bo_eqS (b := false) (by decide +kernel) (is_f (exs_nil ?_))))))))))
    refine exs_cons (ex_ret (ev_bin (ev_bin (ev_sl (ev_var 1 rfl (eo_none (eo_some (ev_var 3 rfl ⟨_, rfl, bsl_tup ?_⟩))))))))
    have e1 : cutD (nd (X ++ (opF ws m ++ Z))) none (some ((X.length : Nat) : Int)) = nd X := by rw [cut_to _ (by omega), Int.toNat_natCast, nd_take, List.take_left]
    rw [e1]
    refine ev_tup (ea_cons (ev_call (ok_closed_form T) (hr.mono (by decide)) (ea_cons (ev_var 0 rfl (ea_cons (ev_var 1 rfl (ea_cons (ev_var 3 rfl (ea_nil ⟨⟨ws, X, m, Z, sl⟩, rfl, ⟨h0, h1, by show 0 < m; omega, by show X.length < 1000; omega⟩, ?_⟩)))))))))
    rintro d rfl
    refine ea_nil (dats1 ⟨by show 1 ≤ sizeLine; decide, bo_addT (by rw [nsI_len]; exact sz (by show X.length + 1 ≤ _; omega)) ?_⟩)
    refine ev_sl (ev_var 1 rfl (eo_some (ev_bin (ev_var 3 rfl ?_))))
    refine ev_lenK (ok_Kind_len T) (hr.mono (by decide)) T.f_len (ev_var 0 rfl ⟨ws, rfl, h1, bo_add ⟨_, rfl, eo_none (bsl_tup ?_)⟩⟩)
    have e2 : cutD (nd (X ++ (opF ws m ++ Z))) (some (((X.length : Nat) : Int) + ((ws.length : Nat) : Int))) none = nd Z := by
      rw [cut_from _ (by omega), show (((X.length : Nat) : Int) + ((ws.length : Nat) : Int)).toNat = X.length + ws.length by omega, nd_drop, ← List.drop_drop, List.drop_left, List.drop_left' (opF_length ws m)]
    rw [e2]
    refine bo_addT (by rw [List.length_append, nsI_len, nsI_len]; exact sz (by show X.length + 1 + _ ≤ _; omega)) ?_
    show D.tup (nd X ++ nd [m] ++ nd Z) = D.tup (nd _)
    rw [← nd_app, ← nd_app, List.append_assoc]
    rfl
abbrev ST.ok2 (x : ST) : Prop := ST.ok x ∧ RkOk x.r'
abbrev cAfter (C : Addr) : Con := ⟨ST, fun x => [.dat (kD C x.ws), .dat (rackD x.r), .dat (stD x.st)], ST.ok2, fun x d => d = rackD x.r'⟩
theorem ok_rack_after (T : Txt K mg) : DefOk P w K mg base 8 "rack_after" (cAfter (CK K)) := by
  refine m_rack_after T (fun _ => rfl) fun f cdv A outer s H E hr B (x : ST) (hx : x.ok2) => ?_
  refine exs_cons (ex_if (et_not (et_ev (by intro _; rfl) (ev_call (ok_can_do T) (hr.mono (by decide)) (ea_cons (ev_var 0 rfl (ea_cons (ev_var 1 rfl (ea_cons (ev_var 2 rfl (ea_nil ⟨x, rfl, hx.1, ?_⟩)))))))))))
  rintro d rfl
  refine is_nt (exs_nil ?_)
  refine exs_cons (ex_set 3 sc_rack_after.nd (ev_call (ok_forms_after T) (hr.mono (by decide)) (ea_cons (ev_var 0 rfl (ea_cons (ev_var 1 rfl (ea_cons (ev_var 2 rfl (ea_nil ⟨x, rfl, hx.1, ?_⟩)))))))))
  rintro d rfl
  refine exs_cons (ex_if (et_not (et_ev (by intro _; rfl) (ev_call (ok_is_rack T) (hr.mono (by decide)) (ea_cons (ev_var 3 rfl (ea_nil ⟨x.r', rfl, hx.2, ?_⟩)))))))
  rintro d rfl
  refine is_nt (exs_nil ?_)
  exact exs_cons (ex_ret (ev_var 3 rfl rfl))
end
end BA

set_option maxHeartbeats 4000000
namespace BA
open PySem PySem.Spec PyProof.Rows L2
def pairsD : List (Int × Int) → List D := List.map fun q => .tup [.int q.1, .int q.2]
theorem valV_dic {kvs : List (Int × Int)} {i j : Int} (h : (kvs.find? fun q => decide (q.1 = i)) = some (i, j)) : valV (dicV kvs) (Sum.inl i) = some (.int j) := by
  induction kvs with
  | nil => cases h
  | cons q kvs ih =>
    by_cases e : q.1 = i
    · rw [show dicV (q :: kvs) = (Sum.inl q.1, V.int q.2) :: dicV kvs from rfl, valV_pos (by rw [e])]
      rw [List.find?_cons_of_pos (by simp [e])] at h
      cases h
      rfl
    · rw [show dicV (q :: kvs) = (Sum.inl q.1, V.int q.2) :: dicV kvs from rfl, valV_neg (fun z => e (Sum.inl.inj z))]
      rw [List.find?_cons_of_neg (by simp [e])] at h
      exact ih h
abbrev kvI (ps : List Nat) (s : Nat) : List (Int × Int) := (ps.zipIdx s).map fun q => (((q.1 : Nat) : Int), ((q.2 : Nat) : Int))
theorem kvI_find : ∀ {ps : List Nat} {i s : Nat}, i ∈ ps → ((kvI ps s).find? fun q => decide (q.1 = ((i : Nat) : Int))) = some (((i : Nat) : Int), ((s + ps.idxOf i : Nat) : Int))
  | [], i, s, h => by cases h
  | p :: ps, i, s, h => by
    show List.find? _ ((((p : Nat) : Int), ((s : Nat) : Int)) :: kvI ps (s + 1)) = _
    by_cases e : p = i
    · subst e
      rw [List.find?_cons_of_pos (by simp), List.idxOf_cons_self]
      rfl
    · have hm : i ∈ ps := (List.mem_cons.mp h).resolve_left fun z => e z.symm
      rw [List.find?_cons_of_neg (by simp; omega), kvI_find hm, List.idxOf_cons, show (p == i) = false from beq_eq_false_iff_ne.mpr e]
      show some (_, ((s + 1 + ps.idxOf i : Nat) : Int)) = some (_, ((s + (ps.idxOf i + 1) : Nat) : Int))
      rw [show s + 1 + ps.idxOf i = s + (ps.idxOf i + 1) by omega]
theorem kvI_keys (ps : List Nat) (s : Nat) : (kvI ps s).map (·.1) = nsI ps := by
  unfold kvI nsI
  rw [List.map_map]
  show (ps.zipIdx s).map (fun q => ((q.1 : Nat) : Int)) = _
  rw [show (fun q : Nat × Nat => ((q.1 : Nat) : Int)) = (fun x : Nat => ((x : Nat) : Int)) ∘ Prod.fst from rfl, ← List.map_map, List.zipIdx_map_fst]
section
variable {P : Program} {w : World} {K : PySem.W.Frag} {mg : Str → Option Value} {base : Heap}
abbrev undOk (st : Stp) : Prop := plain st ∧ ∀ ps, st = .ord ps → Pm ps.length ps ∧ ps.length ≤ 400
abbrev cUndone : Con := ⟨Stp, fun st => [.dat (stD st)], undOk, fun st d => d = stD (und st)⟩
theorem ok_undone_step (T : Txt K mg) : DefOk P w K mg base 1 "undone_step" cUndone := by
  refine m_undone_step T (fun _ => rfl) fun f cdv A outer s H E hr B (st : Stp) (hx : undOk st) => ?_
  cases st with
  | cl p sl => exact hx.1.elim
  | op p sl =>
    refine exs_cons (ex_if (et_cmp (by decide +kernel) (ev_ix (ev_var 0 rfl (ev_int (bix_tup (by rfl) (ev_str (bo_eqS (b := true) (by decide +kernel) (is_t ?_)))))))))
    exact exs_cons (ex_ret (ev_tup (ea_cons (ev_str (ea_cons (ev_ix (ev_var 0 rfl (ev_int (bix_tup (by rfl) (ea_cons (ev_ix (ev_var 0 rfl (ev_int (bix_tup (by rfl) (ea_nil (dats3 ⟨by show 3 ≤ sizeLine; decide, rfl⟩))))))))))))))))
  | ord ps =>
    obtain ⟨hpm, hl⟩ := hx.2 ps rfl
    refine exs_cons (ex_if (et_cmp (by decide +kernel) (ev_ix (ev_var 0 rfl (ev_int (bix_tup (by rfl) (ev_str (bo_eqS (b := false) (by decide +kernel) (is_f (exs_nil ?_))))))))))
    refine exs_cons (ex_if (et_cmp (by decide +kernel) (ev_ix (ev_var 0 rfl (ev_int (bix_tup (by rfl) (ev_str (bo_eqS (b := false) (by decide +kernel) (is_f (exs_nil ?_))))))))))
    refine exs_cons (ex_set 1 sc_undone_step.nd (ev_callTy (T := "dict") T.f_dict (by decide +kernel) (ea_cons (ev_lcG (own := [("k", 2), ("place", 3)]) rfl sc_undone_step.nd (blkOk_by (by show blkC N_undone_step (defScope s_undone_step) _ _ = true; decide +kernel)) (takes_pair 2 3 (by decide) rfl sc_undone_step.nd rfl rfl (by intro _ _ _ _ _; exact .inl rfl) (by intro _ _ _ _ _; exact .inl rfl) (by intro _ _ _ _ _; exact .inr rfl) (by intro _ _ _ _ _; exact .inr rfl)) (ei_enumT T.f_enumerate (ev_ix (ev_var 0 rfl (ev_int (bix_tup (by rfl) ⟨_, rfl, ?_⟩)))))))))
    refine ⟨fun d hd => ?_, fun i acc => acc = (kvI (ps.take i) 0).map (fun q => D.tup [.int q.1, .int q.2]), rfl, fun i d acc hd hi => ?_, fun acc hacc => ?_⟩
    · obtain ⟨i, hi⟩ := List.getElem?_of_mem hd
      obtain ⟨y, _, rfl⟩ := enumD_at hi
      rfl
    · obtain ⟨x, hy, rfl⟩ := enumD_at hd
      rw [List.getElem?_map, List.getElem?_map] at hy
      obtain ⟨_, k1, rfl⟩ := Option.map_eq_some_iff.mp hy
      obtain ⟨y, k2, rfl⟩ := Option.map_eq_some_iff.mp k1
      have hil := (List.getElem?_eq_some_iff.mp k2).1
      refine ⟨by rw [hi, List.length_map, List.length_map, List.length_zipIdx, List.length_take]; exact szl (by omega), fun s H0 C cl fp => ets_nil (t_t fun s H0 C cl fp => ?_)⟩
      refine ev_tup (ea_cons (ev_var 3 rfl (ea_cons (ev_var 2 rfl (ea_nil (dats2 ⟨by show 2 ≤ sizeLine; decide, ?_⟩))))))
      show acc ++ [D.tup [.int ((y : Nat) : Int), .int ((i : Nat) : Int)]] = _
      rw [hi, List.take_add_one, k2]
      show _ = List.map _ (List.map _ ((ps.take i ++ [y]).zipIdx 0))
      rw [List.zipIdx_append, List.map_append, List.map_append, List.length_take, Nat.min_eq_left (Nat.le_of_lt hil), Nat.zero_add]
      rfl
    · subst hacc
      rw [enumD_length, nsI_len, List.take_length]
      refine ea_nil (bc_dict rfl (by rw [kvI_keys]; exact List.Pairwise.map (R := (· ≠ ·)) _ (fun a b (z : a ≠ b) y => z (by omega)) hpm.nd) ?_)
      refine exs_cons (ex_ret (ev_tup (ea_cons (ev_str (ea_cons (ev_callTy (T := "tuple") T.f_tuple (by decide +kernel) (ea_cons (ev_lcG (own := [("place", 3)]) rfl sc_undone_step.nd (blkOk_by (by show blkC N_undone_step (defScope s_undone_step) _ _ = true; decide +kernel)) (takes_name 3 sc_undone_step.nd rfl (by intro _ _ _ _ _; exact .inl rfl) (by intro _ _ _ _ _; exact .inr rfl)) (ei_rg1 T.f_range ?_)))))))))
      refine ev_callB (id := "len") T.f_len (by decide +kernel) (ea_cons (ev_ix (ev_var 0 rfl (ev_int (bix_tup (by rfl) (ea_nil (bc_lenT ⟨_, rfl, by omega, by rw [nsI_len]; omega, ?_⟩)))))))
      rw [nsI_len]
      refine ⟨fun _ _ => trivial, fun i acc => acc = nd ((inv ps).take i), rfl, fun i d acc hd hi => ?_, fun acc hacc => ?_⟩
      · have hil : i < ps.length := by
          have := (List.getElem?_eq_some_iff.mp hd).1
          rw [List.length_map, List.length_range] at this
          omega
        rw [List.getElem?_map] at hd
        obtain ⟨y, hy, rfl⟩ := Option.map_eq_some_iff.mp hd
        obtain ⟨_, rfl⟩ := List.getElem?_eq_some_iff.mp hy
        rw [List.getElem_range, Int.zero_add]
        have hm := hpm.mem hil
        refine ⟨by rw [hi, nsI_len, List.length_take]; exact szl (by omega), fun s H0 C cl fp => ets_nil (t_t fun s H0 C cl fp => ?_)⟩
        refine ev_dget hr (by intro _ _; rfl) (ev_var 1 rfl (ev_var 3 rfl ⟨_, _, _, rfl, rfl, valV_dic (kvI_find hm), ?_⟩))
        have e : (inv ps)[i]? = some (ps.idxOf i) := by unfold inv; rw [List.getElem?_map, List.getElem?_range hil]; rfl
        show acc ++ [D.int ((0 + ps.idxOf i : Nat) : Int)] = nd ((inv ps).take (i + 1))
        rw [Nat.zero_add, hi, List.take_add_one, e, nd_app]
        rfl
      · subst hacc
        refine ea_nil (bc_tuple (ea_nil (dats2 ⟨by show 2 ≤ sizeLine; decide, ?_⟩)))
        show D.tup [.str "order", .tup _] = D.tup [.str "order", .tup _]
        rw [List.length_map, List.length_range, show ((((ps.length : Nat) : Int) - 0).toNat) = ps.length by omega, List.take_of_length_le (by rw [inv_length]; exact Nat.le_refl _)]
end
end BA

set_option maxHeartbeats 4000000
namespace BA
open PySem PySem.Spec PyProof.Rows L2
theorem cut_at {A Z : List Int} {m : Int} : cutD ((A ++ m :: Z).map D.int) none (some ((A.length : Nat) : Int)) = A.map D.int ∧ cutD ((A ++ m :: Z).map D.int) (some (((A.length : Nat) : Int) + 1)) none = Z.map D.int := by
  constructor
  · rw [cut_to _ (by omega), Int.toNat_natCast, ← List.map_take, List.take_left]
  · rw [cut_from _ (by omega), show (((A.length : Nat) : Int) + 1).toNat = A.length + 1 by omega, ← List.map_drop, List.drop_append, List.drop_of_length_le (by omega), show A.length + 1 - A.length = 1 by omega]
    rfl
theorem cut_at0 {A Z : List Int} : cutD ((A ++ Z).map D.int) none (some ((A.length : Nat) : Int)) = A.map D.int ∧ cutD ((A ++ Z).map D.int) (some ((A.length : Nat) : Int)) none = Z.map D.int := by
  constructor
  · rw [cut_to _ (by omega), Int.toNat_natCast, ← List.map_take, List.take_left]
  · rw [cut_from _ (by omega), Int.toNat_natCast, ← List.map_drop, List.drop_left]
theorem first_of {ps : List Nat} (hn : ps.Nodup) {i j : Nat} (h : ps[j]? = some i) : First (nsI ps) ((i : Nat) : Int) 0 j := by
  refine ⟨Nat.zero_le _, by rw [List.getElem?_map, h]; rfl, fun m _ hm e => ?_⟩
  rw [List.getElem?_map] at e
  obtain ⟨y, hy, e2⟩ := Option.map_eq_some_iff.mp e
  have e3 : y = i := by omega
  subst e3
  have := getElem?_inj hn hy h
  omega
section
variable {P : Program} {w : World} {K : PySem.W.Frag} {mg : Str → Option Value} {base : Heap}
structure MV where
  ws : List Nat
  st : Stp
  t : Th
  t' : Th
abbrev MV.ok (x : MV) : Prop := 0 < x.ws.length ∧ x.ws.length < 100 ∧ x.t.f.wf x.ws ∧ x.t.f.code.length ≤ 1000 ∧ Mv x.ws x.st x.t x.t'
abbrev cMoved (C : Addr) : Con := ⟨MV, fun x => [.dat (kD C x.ws), .dat (stD x.st), .dat (thD x.t)], MV.ok, fun x d => d = thD x.t'⟩
theorem ok_moved (T : Txt K mg) : DefOk P w K mg base 6 "moved" (cMoved (CK K)) := by
  refine m_moved T (fun _ => rfl) fun f cdv A outer s H E hr B (x : MV) (hx : x.ok) => ?_
  obtain ⟨ws, st, t, t'⟩ := x
  obtain ⟨h0, h1, h2, h3, h4⟩ : 0 < ws.length ∧ ws.length < 100 ∧ t.f.wf ws ∧ t.f.code.length ≤ 1000 ∧ Mv ws st t t' := hx
  show Exs _ B _ [.dat (kD (CK K) ws), .dat (stD st), .dat (thD t), .unb, .unb, .unb, .unb, .unb, .unb, .unb] ⟨fun _ => _, fun d => d = thD t', fun _ => False, fun _ => False⟩
  refine exs_cons (ex_asg (ev_var 2 rfl (eg_tup rfl (egs_cons (eg_name 3 sc_moved.nd (egs_cons (eg_name 4 sc_moved.nd (egs_nil ?_))))))))
  have res : ∀ {a : Nat} {c : List Int}, a = t'.at_ → c = t'.f.code → D.tup [nc a, .tup (c.map D.int)] = thD t' := fun e1 e2 => by rw [e1, e2]
  cases st with
  | ord ps =>
    obtain ⟨k1, k2, k3⟩ := h4
    refine exs_cons (ex_if (et_cmp (by decide +kernel) (ev_ix (ev_var 1 rfl (ev_int (bix_tup (by rfl) (ev_str (bo_eqS (b := true) (by decide +kernel) (is_t ?_)))))))))
    refine exs_cons (ex_ret (ev_tup (ea_cons (ev_idxT (ev_ix (ev_var 1 rfl (ev_int (bix_tup (by rfl) ⟨_, rfl, ea_cons (ev_var 3 rfl (ea_nil (dats1 ⟨_, _, rfl, first_of k2 k3, ?_⟩)))⟩))))))))
    exact ea_cons (ev_var 4 rfl (ea_nil (dats2 ⟨by show 2 ≤ sizeLine; decide, res rfl (by rw [k1])⟩)))
  | op p sl =>
    refine exs_cons (ex_if (et_cmp (by decide +kernel) (ev_ix (ev_var 1 rfl (ev_int (bix_tup (by rfl) (ev_str (bo_eqS (b := false) (by decide +kernel) (is_f (exs_nil ?_))))))))))
    refine exs_cons (ex_asg (ev_var 1 rfl (eg_tup rfl (egs_cons (eg_name 5 sc_moved.nd (egs_cons (eg_name 6 sc_moved.nd (egs_cons (eg_name 7 sc_moved.nd (egs_nil ?_))))))))))
    have h4 : OpMv ws p sl t t' := h4
    refine exs_cons (ex_if (et_cmp (by decide +kernel) (ev_var 3 rfl (ev_var 6 rfl (bo_lt (is_d (fun z => ?_) fun z => ?_))))))
    · have z : t.at_ < p := by omega
      refine exs_cons (ex_ret (ev_var 2 rfl ?_))
      rcases h4 with ⟨q1, q2, q3⟩ | ⟨q1, _⟩ | ⟨q1, _⟩
      · exact res q2.symm (by rw [q3])
      · omega
      · omega
    · refine exs_nil (exs_cons (ex_set 8 sc_moved.nd (ev_bin (ev_lenK (ok_Kind_len T) (hr.mono (by decide)) T.f_len (ev_var 0 rfl ⟨ws, rfl, h1, ev_int (bo_sub ?_)⟩)))))
      refine exs_cons (ex_if (et_cmp (by decide +kernel) (ev_var 5 rfl (ev_str (bo_eqS (b := true) (by decide +kernel) (is_t ?_))))))
      refine exs_cons (ex_if (et_cmp (by decide +kernel) (ev_var 3 rfl (ev_var 6 rfl (bo_gt (is_d (fun z2 => ?_) fun z2 => ?_))))))
      · have z2 : p < t.at_ := by omega
        refine exs_cons (ex_ret (ev_tup (ea_cons (ev_bin (ev_var 3 rfl (ev_var 8 rfl (bo_add (ea_cons (ev_var 4 rfl (ea_nil (dats2 ⟨by show 2 ≤ sizeLine; decide, ?_⟩)))))))))))
        rcases h4 with ⟨q1, _⟩ | ⟨q1, q2, q3⟩ | ⟨q1, _⟩
        · omega
        · have e : ((t.at_ : Nat) : Int) + (((ws.length : Nat) : Int) - 1) = ((t'.at_ : Nat) : Int) := by omega
          rw [e]
          exact res rfl (by rw [q3])
        · omega
      · rcases h4 with ⟨q1, _⟩ | ⟨q1, _⟩ | ⟨q1, m, q2, q3⟩
        · omega
        · omega
        · obtain ⟨X, Z, e1, e2, e3, e4, e5⟩ := q2.code
          obtain ⟨_, _, _, e6⟩ := q2.len
          have hc : X.length + (Z.length + 1) ≤ 1000 := by rw [e1, List.length_append, List.length_cons] at h3; exact h3
          have hsl := len_le_code t.f
          refine exs_nil (exs_cons (ex_set 9 sc_moved.nd (ev_call (ok_slot_begin T) (hr.mono (by decide)) (ea_cons (ev_var 0 rfl (ea_cons (ev_var 4 rfl (ea_cons (ev_var 7 rfl (ea_nil ⟨(ws, t.f, sl), rfl, ⟨h2, by show sl ≤ t.f.len; omega, by show sl < 1000000; omega⟩, ?_⟩))))))))))
          rintro d rfl
          show Exs _ B _ [.dat (kD (CK K) ws), .dat (stD (.op p sl)), .dat (thD t), .dat (nc t.at_), .dat (.tup (t.f.code.map D.int)), .dat (.str "open"), .dat (nc p), .dat (nc sl), .dat (.int (((ws.length : Nat) : Int) - 1)), .dat (nc (t.f.pre sl))] ⟨fun _ => _, fun d => d = thD t', fun _ => False, fun _ => False⟩
          rw [e3, e1]
          have hat : ((X ++ (m : Int) :: Z).map D.int)[X.length]? = some (.int (m : Nat)) := ints_at (by rw [List.getElem?_append_right (Nat.le_refl _), Nat.sub_self]; rfl)
          refine exs_cons (ex_ret (ev_tup (ea_cons (ev_bin (ev_var 6 rfl (ev_ix (ev_var 4 rfl (ev_var 9 rfl (bix_tup (atI_nat hat) (bo_add (ea_cons (ev_bin (ev_sl (ev_var 4 rfl (eo_none (eo_some (ev_var 9 rfl ⟨_, rfl, bsl_tup ?_⟩)))))))))))))))))
          rw [cut_at.1]
          refine ev_sl (ev_var 4 rfl (eo_some (ev_bin (ev_var 9 rfl (ev_int (bo_add ⟨_, rfl, eo_none (bsl_tup ?_)⟩))))))
          rw [cut_at.2]
          refine bo_addT (by rw [List.length_map, List.length_map]; exact sz (by omega)) (ea_nil (dats2 ⟨by show 2 ≤ sizeLine; decide, ?_⟩))
          have e : ((p : Nat) : Int) + ((m : Nat) : Int) = ((t'.at_ : Nat) : Int) := by omega
          rw [e, ← List.map_append]
          exact res rfl e2.symm
  | cl p sl =>
    refine exs_cons (ex_if (et_cmp (by decide +kernel) (ev_ix (ev_var 1 rfl (ev_int (bix_tup (by rfl) (ev_str (bo_eqS (b := false) (by decide +kernel) (is_f (exs_nil ?_))))))))))
    refine exs_cons (ex_asg (ev_var 1 rfl (eg_tup rfl (egs_cons (eg_name 5 sc_moved.nd (egs_cons (eg_name 6 sc_moved.nd (egs_cons (eg_name 7 sc_moved.nd (egs_nil ?_))))))))))
    have h4 : OpMv ws p sl t' t := h4
    refine exs_cons (ex_if (et_cmp (by decide +kernel) (ev_var 3 rfl (ev_var 6 rfl (bo_lt (is_d (fun z => ?_) fun z => ?_))))))
    · have z : t.at_ < p := by omega
      refine exs_cons (ex_ret (ev_var 2 rfl ?_))
      rcases h4 with ⟨q1, q2, q3⟩ | ⟨q1, q2, _⟩ | ⟨q1, m, q2, q3⟩
      · exact res q2 (by rw [q3])
      · omega
      · omega
    · refine exs_nil (exs_cons (ex_set 8 sc_moved.nd (ev_bin (ev_lenK (ok_Kind_len T) (hr.mono (by decide)) T.f_len (ev_var 0 rfl ⟨ws, rfl, h1, ev_int (bo_sub ?_)⟩)))))
      refine exs_cons (ex_if (et_cmp (by decide +kernel) (ev_var 5 rfl (ev_str (bo_eqS (b := false) (by decide +kernel) (is_f (exs_nil ?_)))))))
      refine exs_cons (ex_if (et_cmp (by decide +kernel) (ev_var 3 rfl (ev_bin (ev_var 6 rfl (ev_var 8 rfl (bo_add (bo_gt (is_d (fun z2 => ?_) fun z2 => ?_)))))))))
      · refine exs_cons (ex_ret (ev_tup (ea_cons (ev_bin (ev_var 3 rfl (ev_var 8 rfl (bo_sub (ea_cons (ev_var 4 rfl (ea_nil (dats2 ⟨by show 2 ≤ sizeLine; decide, ?_⟩)))))))))))
        rcases h4 with ⟨q1, q2, _⟩ | ⟨q1, q2, q3⟩ | ⟨q1, m, q2, q3⟩
        · omega
        · have e : ((t.at_ : Nat) : Int) - (((ws.length : Nat) : Int) - 1) = ((t'.at_ : Nat) : Int) := by omega
          rw [e]
          exact res rfl (by rw [q3])
        · have := q2.lt
          omega
      · rcases h4 with ⟨q1, q2, _⟩ | ⟨q1, q2, _⟩ | ⟨q1, m, q2, q3⟩
        · omega
        · omega
        · obtain ⟨X, Z, e1, e2, e3, e4, e5⟩ := q2.code
          obtain ⟨w', _, e6, e7⟩ := q2.len
          have hc : X.length + Z.length ≤ 1000 := by rw [e2, List.length_append] at h3; exact h3
          have hsl := len_le_code t.f
          refine exs_nil (exs_cons (ex_set 9 sc_moved.nd (ev_call (ok_slot_begin T) (hr.mono (by decide)) (ea_cons (ev_var 0 rfl (ea_cons (ev_var 4 rfl (ea_cons (ev_var 7 rfl (ea_nil ⟨(ws, t.f, sl), rfl, ⟨h2, by show sl ≤ t.f.len; omega, by show sl < 1000000; omega⟩, ?_⟩))))))))))
          rintro d rfl
          show Exs _ B _ [.dat (kD (CK K) ws), .dat (stD (.cl p sl)), .dat (thD t), .dat (nc t.at_), .dat (.tup (t.f.code.map D.int)), .dat (.str "close"), .dat (nc p), .dat (nc sl), .dat (.int (((ws.length : Nat) : Int) - 1)), .dat (nc (t.f.pre sl))] ⟨fun _ => _, fun d => d = thD t', fun _ => False, fun _ => False⟩
          rw [e4, e2]
          refine exs_cons (ex_ret (ev_tup (ea_cons (ev_var 6 rfl (ea_cons (ev_bin (ev_bin (ev_sl (ev_var 4 rfl (eo_none (eo_some (ev_var 9 rfl ⟨_, rfl, bsl_tup ?_⟩))))))))))))
          rw [cut_at0.1]
          refine ev_tup (ea_cons (ev_bin (ev_var 3 rfl (ev_var 6 rfl (bo_sub (ea_nil (dats1 ⟨by show 1 ≤ sizeLine; decide, bo_addT (by rw [List.length_map]; exact sz (by show X.length + 1 ≤ _; omega)) ?_⟩)))))))
          refine ev_sl (ev_var 4 rfl (eo_some (ev_var 9 rfl ⟨_, rfl, eo_none (bsl_tup ?_)⟩)))
          rw [cut_at0.2]
          refine bo_addT (by rw [List.length_append, List.length_map, List.length_map]; exact sz (by show X.length + 1 + Z.length ≤ _; omega)) (ea_nil (dats2 ⟨by show 2 ≤ sizeLine; decide, ?_⟩))
          have e : ((t.at_ : Nat) : Int) - ((p : Nat) : Int) = ((m : Nat) : Int) := by omega
          rw [e]
          have e9 : X.map D.int ++ [D.int ((m : Nat) : Int)] ++ Z.map D.int = (X ++ (m : Int) :: Z).map D.int := by simp
          rw [e9]
          exact res q1.symm e1.symm
structure LT where
  ws : List Nat
  r : List Nat
  st : Stp
  r' : List Nat
  t : Th
  t' : Th
abbrev LT.ok (x : LT) : Prop := ST.ok2 ⟨x.ws, x.r, x.st, x.r'⟩ ∧ ThOk x.ws x.r x.t ∧ Mv x.ws x.st x.t x.t'
abbrev cLed (C : Addr) : Con := ⟨LT, fun x => [.dat (kD C x.ws), .dat (rackD x.r), .dat (stD x.st), .dat (thD x.t)], LT.ok, fun x d => d = thD x.t'⟩
theorem ok_led_to (T : Txt K mg) : DefOk P w K mg base 9 "led_to" (cLed (CK K)) := by
  refine m_led_to T (fun _ => rfl) fun f cdv A outer s H E hr B (x : LT) (hx : x.ok) => ?_
  obtain ⟨ws, r, st, r', t, t'⟩ := x
  obtain ⟨h1, h2, h3⟩ : ST.ok2 ⟨ws, r, st, r'⟩ ∧ ThOk ws r t ∧ Mv ws st t t' := hx
  show Exs _ B _ [.dat (kD (CK K) ws), .dat (rackD r), .dat (stD st), .dat (thD t)] ⟨fun _ => _, fun d => d = thD t', fun _ => False, fun _ => False⟩
  refine exs_cons (ex_expr (ev_call (ok_rack_after T) (hr.mono (by decide)) (ea_cons (ev_var 0 rfl (ea_cons (ev_var 1 rfl (ea_cons (ev_var 2 rfl (ea_nil ⟨⟨ws, r, st, r'⟩, rfl, h1, fun d _ => ?_⟩)))))))))
  refine exs_cons (ex_if (et_not (et_ev (by intro _; rfl) (ev_call (ok_is_thing T) (hr.mono (by decide)) (ea_cons (ev_var 0 rfl (ea_cons (ev_var 1 rfl (ea_cons (ev_var 3 rfl (ea_nil ⟨(ws, r, t), rfl, ⟨h2, h1.1.2.2.1⟩, ?_⟩)))))))))))
  rintro d rfl
  refine is_nt (exs_nil ?_)
  exact exs_cons (ex_ret (ev_call (ok_moved T) (hr.mono (by decide)) (ea_cons (ev_var 0 rfl (ea_cons (ev_var 2 rfl (ea_cons (ev_var 3 rfl (ea_nil ⟨⟨ws, st, t, t'⟩, rfl, ⟨h1.1.1, h1.1.2.1, h2.1.2.2.2, h2.1.2.1, h3⟩, fun d h => h⟩)))))))))
end
end BA

set_option maxHeartbeats 4000000
namespace BA
open PySem PySem.Spec PyProof.Rows L2
/-- the signs of a text -/
def sgD (z : Str) : List D := z.cps.toList.map fun c => .str ⟨#[c]⟩
theorem sgD_at {z : Str} {i : Nat} {d : D} (h : (sgD z)[i]? = some d) : ∃ c, z.cps[i]? = some c ∧ d = .str ⟨#[c]⟩ ∧ i < z.cps.size := by
  unfold sgD at h
  rw [List.getElem?_map] at h
  obtain ⟨c, hc, rfl⟩ := Option.map_eq_some_iff.mp h
  rw [Array.getElem?_toList] at hc
  exact ⟨c, hc, rfl, (Array.getElem?_eq_some_iff.mp hc).1⟩
theorem ei_str {X : Cx} {B : Base} {δ : List Ent} {tg e : Expr} {RL : List D → Prop} (h : Ev X B e δ fun d => ∃ z, d = .str z ∧ RL (sgD z)) : Ei X B tg e δ RL := fun S H σ ok Q q =>
  ⟨_, pi_str (pe_u e), h S H σ ok _ fun v d S1 H1 ⟨z, e1, y⟩ g1 r1 => by
    subst e1
    obtain rfl : v = .str z := r1
    refine ⟨z, rfl, q _ _ S1 H1 y g1 (drawn_of (fun i d H' e1 e => ?_) (fun i d S' H' H'' x e1 e2 e y => ?_) fun H' e1 => ?_)⟩
    · exact (sgD_at e).choose_spec.2.2
    · obtain ⟨c, hc, rfl, _⟩ := sgD_at e
      obtain ⟨rfl, c2, hc2, rfl⟩ := y
      rw [hc] at hc2
      cases hc2
      exact ⟨rfl, rfl⟩
    · show z.cps.size ≤ (sgD z).length
      unfold sgD
      rw [List.length_map, Array.length_toList]
      exact Nat.le_refl _⟩
def abc : Str := "abcdefghijklmnopqrstuvwxyz"
/-- a name's text -/
structure NmOk (z : Str) : Prop where
  lo : 1 ≤ z.length
  hi : z.length ≤ 8
  sg : ∀ c ∈ z.cps.toList, decide (c ∈ abc.cps.toList) = true
def nmB (z : Str) : Bool := decide (1 ≤ z.length) && (decide (z.length ≤ 8) && z.cps.toList.all fun c => decide (c ∈ abc.cps.toList))
theorem nmB_ok {z : Str} (h : nmB z = true) : NmOk z := by
  unfold nmB at h
  simp only [Bool.and_eq_true, List.all_eq_true] at h
  exact ⟨of_decide_eq_true h.1, of_decide_eq_true h.2.1, h.2.2⟩
theorem nm_ok : ∀ i, NmOk (nm i)
  | 0 => nmB_ok (by decide +kernel)
  | 1 => nmB_ok (by decide +kernel)
  | 2 => nmB_ok (by decide +kernel)
  | 3 => nmB_ok (by decide +kernel)
  | _ + 4 => nmB_ok (z := "ee") (by decide +kernel)
theorem nm_strOk : ∀ i, PyData.strOk (nm i) = true
  | 0 => by decide +kernel
  | 1 => by decide +kernel
  | 2 => by decide +kernel
  | 3 => by decide +kernel
  | _ + 4 => by show PyData.strOk "ee" = true; decide +kernel
/-- the numbers of makers that the law draws -/
structure WsOk (ws : List Nat) : Prop where
  lo : 2 ≤ ws.length
  hi : ws.length ≤ 5
  le : ∀ w ∈ ws, w ≤ 4
  leaf : 0 ∈ ws
  wide : ∃ w ∈ ws, 1 < w
theorem names_nd {n : Nat} (h : n ≤ 5) : ((List.range n).map nm).Nodup := by
  rcases (by omega : n = 0 ∨ n = 1 ∨ n = 2 ∨ n = 3 ∨ n = 4 ∨ n = 5) with rfl | rfl | rfl | rfl | rfl | rfl <;> decide +kernel
theorem rowsK_inv {ws : List Nat} {i : Nat} {d : D} (h : (rowsK ws)[i]? = some d) : ∃ w, ws[i]? = some w ∧ d = rowK w i := by
  unfold rowsK at h
  rw [List.getElem?_map, List.getElem?_zipIdx] at h
  cases e : ws[i]? with
  | none => rw [e] at h; cases h
  | some w =>
    rw [e] at h
    simp at h
    exact ⟨w, rfl, h.symm⟩
theorem rowsK_pl (ws : List Nat) : D.pl (.lst (rowsK ws)) 60 = true := by
  refine D.pls_all (n := 59) fun d hd => ?_
  obtain ⟨i, hi⟩ := List.getElem?_of_mem hd
  obtain ⟨w, _, rfl⟩ := rowsK_inv hi
  show (PyData.strOk (nm i) && true) = true
  rw [nm_strOk]
  rfl
section
variable {P : Program} {w : World} {K : PySem.W.Frag} {mg : Str → Option Value} {base : Heap}
abbrev cName : Con := ⟨Str, fun z => [.dat (.str z)], NmOk, fun _ d => d = .bl true⟩
theorem ok_is_name (T : Txt K mg) : DefOk P w K mg base 1 "is_name" cName := by
  refine m_is_name T (fun _ => rfl) fun f cdv A outer s H E hr B (z : Str) (hz : NmOk z) => ?_
  have h1 := hz.lo
  have h2 := hz.hi
  refine exs_cons (ex_if (et_w (ew_or (et_not (et_ev (by intro _; rfl) (ev_isi (k := true) (t := "str") (T := "str") T.f_isinstance T.f_str (by decide +kernel) (by decide +kernel) (ev_var 0 rfl ⟨rfl, is_nt ?_⟩)))))))
  refine ew_or1 (et_not (et_chain (by decide +kernel) (ev_int (ev_callB (id := "len") T.f_len (by decide +kernel) (ea_cons (ev_var 0 rfl (ea_nil (bc_lenS (sz (by omega)) (bo_le (is_dt (by omega) (ev_gint T.i_MOST_LETTERS (bo_le ?_))))))))))))
  refine is_ndt (by omega) (exs_nil ?_)
  refine exs_cons (ex_ret (ev_callB (id := "all") T.f_all (by decide +kernel) (ea_cons (ev_lcG (own := [("sign", 1)]) rfl sc_is_name.nd (blkOk_by (by show blkC N_is_name (defScope s_is_name) _ _ = true; decide +kernel)) (takes_name 1 sc_is_name.nd rfl (by intro _ _ _ _ _; exact .inl rfl) (by intro _ _ _ _ _; exact .inr rfl)) (ei_str (ev_var 0 rfl ⟨_, rfl, ?_⟩))))))
  refine ⟨fun _ _ => trivial, fun i acc => acc = (List.replicate i true).map D.bl, rfl, fun i d acc hd hi => ?_, fun acc hacc => ?_⟩
  · obtain ⟨c, hc, rfl, hil⟩ := sgD_at hd
    have hz2 : z.cps.size ≤ 8 := h2
    refine ⟨by rw [hi, List.length_map, List.length_replicate]; exact szl (by omega), fun s H0 C cl fp => ets_nil (t_t fun s H0 C cl fp => ?_)⟩
    refine ev_cmp (by decide +kernel) (ev_var 1 rfl (ev_gstr T.i_LETTERS (bo_inS (b := true) (hz.sg c (by rw [Array.mem_toList_iff]; exact Array.mem_of_getElem? hc)) ?_)))
    show acc ++ [D.bl true] = _
    rw [hi, List.replicate_succ', List.map_append]
    rfl
  · subst hacc
    refine ea_nil (bc_all rfl ?_)
    show D.bl _ = D.bl _
    rw [reps_all]
abbrev cMRow : Con := ⟨Nat × Nat, fun x => [.dat (rowK x.1 x.2)], fun x => x.1 ≤ 4, fun _ d => d = .bl true⟩
theorem ok_is_maker_row (T : Txt K mg) : DefOk P w K mg base 2 "is_maker_row" cMRow := by
  refine m_is_maker_row T (fun _ => rfl) fun f cdv A outer s H E hr B (x : Nat × Nat) (hx : x.1 ≤ 4) => ?_
  refine exs_cons (ex_if (et_w (ew_or (et_not (et_ev (by intro _; rfl) (ev_isi (k := true) (t := "tuple") (T := "tuple") T.f_isinstance T.f_tuple (by decide +kernel) (by decide +kernel) (ev_var 0 rfl ⟨rfl, is_nt ?_⟩)))))))
  refine ew_or1 (et_cmp (by decide +kernel) (ev_callB (id := "len") T.f_len (by decide +kernel) (ea_cons (ev_var 0 rfl (ea_nil (bc_lenT (ev_int (bo_ne (is_nddt rfl (exs_nil ?_))))))))))
  refine exs_cons (ex_ret (ev_and (ev_call (ok_is_name T) (hr.mono (by decide)) (ea_cons (ev_ix (ev_var 0 rfl (ev_int (bix_tup (by rfl) (ea_nil ⟨nm x.2, rfl, nm_ok _, ?_⟩)))))))))
  rintro d rfl
  refine is_t (ev_one (ev_call (ok_is_whole T) (hr.mono (by decide)) (ea_cons (ev_ix (ev_var 0 rfl (ev_int (bix_tup (by rfl) (ea_cons (ev_int (ea_cons (ev_gint T.i_MOST_WITHIN (ea_nil ⟨(_, _), rfl, trivial, ?_⟩))))))))))))
  rintro d rfl
  show D.bl _ = D.bl true
  rw [decide_eq_true (⟨by omega, by omega⟩ : (0 : Int) ≤ ((x.1 : Nat) : Int) ∧ ((x.1 : Nat) : Int) ≤ 4)]
abbrev cMakers : Con := ⟨List Nat, fun ws => [.dat (.lst (rowsK ws))], WsOk, fun _ d => d = .bl true⟩
theorem ok_are_makers (T : Txt K mg) : DefOk P w K mg base 3 "are_makers" cMakers := by
  refine m_are_makers T (fun _ => rfl) fun f cdv A outer s H E hr B (ws : List Nat) (hx : WsOk ws) => ?_
  have h1 := hx.lo
  have h2 := hx.hi
  have hl := rowsK_length ws
  refine exs_cons (ex_if (et_w (ew_or (et_not (et_ev (by intro _; rfl) (ev_isi (k := true) (t := "list") (T := "list") T.f_isinstance T.f_list (by decide +kernel) (by decide +kernel) (ev_var 0 rfl ⟨rfl, is_nt ?_⟩)))))))
  refine ew_or1 (et_not (et_chain (by decide +kernel) (ev_int (ev_callB (id := "len") T.f_len (by decide +kernel) (ea_cons (ev_var 0 rfl (ea_nil (bc_lenL (bo_le (is_dt (by omega) (ev_gint T.i_MOST_MAKERS (bo_le ?_))))))))))))
  refine is_ndt (by omega) (exs_nil ?_)
  refine exs_cons (ex_if (et_w (ew_or (et_not (et_ev (by intro _; rfl) (ev_callB (id := "all") T.f_all (by decide +kernel) (ea_cons (ev_lcG (own := [("row", 1)]) rfl sc_are_makers.nd (blkOk_by (by show blkC N_are_makers (defScope s_are_makers) _ _ = true; decide +kernel)) (takes_name 1 sc_are_makers.nd rfl (by intro _ _ _ _ _; exact .inl rfl) (by intro _ _ _ _ _; exact .inr rfl)) (ei_list (ev_var 0 rfl ⟨_, rfl, ?_⟩))))))))))
  refine ⟨fun _ _ => trivial, fun i acc => acc = (List.replicate i true).map D.bl, rfl, fun i d acc hd hi => ?_, fun acc hacc => ?_⟩
  · have hil := (List.getElem?_eq_some_iff.mp hd).1
    obtain ⟨y, hy, rfl⟩ := rowsK_inv hd
    refine ⟨by rw [hi, List.length_map, List.length_replicate]; exact szl (by omega), fun s H0 C cl fp => ets_nil (t_t fun s H0 C cl fp => ?_)⟩
    refine ev_call (ok_is_maker_row T) (hr.mono (by decide)) (ea_cons (ev_var 1 rfl (ea_nil ⟨(y, i), rfl, hx.le y (List.mem_of_getElem? hy), ?_⟩)))
    rintro d rfl
    show acc ++ [D.bl true] = _
    rw [hi, List.replicate_succ', List.map_append]
    rfl
  subst hacc
  refine ea_nil (bc_all rfl ?_)
  rw [reps_all]
  refine is_nt (ew_or1 (et_cmp (by decide +kernel) (ev_lenSet rfl T.f_len T.f_set (ev_lcG (own := [("name", 2), ("many", 3)]) rfl sc_are_makers.nd (blkOk_by (by show blkC N_are_makers (defScope s_are_makers) _ _ = true; decide +kernel)) (takes_pair 2 3 (by decide) rfl sc_are_makers.nd rfl rfl (by intro _ _ _ _ _; exact .inl rfl) (by intro _ _ _ _ _; exact .inl rfl) (by intro _ _ _ _ _; exact .inr rfl) (by intro _ _ _ _ _; exact .inr rfl)) (ei_list (ev_var 0 rfl ⟨_, rfl, ?_⟩))))))
  refine ⟨fun d hd => ?_, fun i acc => acc = ((List.range i).map nm).map D.str, rfl, fun i d acc hd hi => ?_, fun acc hacc => ?_⟩
  · obtain ⟨i, hi⟩ := List.getElem?_of_mem hd
    obtain ⟨y, _, rfl⟩ := rowsK_inv hi
    rfl
  · have hil := (List.getElem?_eq_some_iff.mp hd).1
    obtain ⟨y, hy, rfl⟩ := rowsK_inv hd
    refine ⟨by rw [hi, List.length_map, List.length_map, List.length_range]; exact szl (by omega), fun s H0 C cl fp => ets_nil (t_t fun s H0 C cl fp => ?_)⟩
    refine ev_var 2 rfl ?_
    show acc ++ [D.str (nm i)] = _
    rw [hi, List.range_succ, List.map_append, List.map_append]
    rfl
  refine ⟨_, by rw [hacc], names_nd (by rw [hl]; exact h2), by rw [List.length_map, List.length_range, hl]; omega, ?_⟩
  refine ev_callB (id := "len") T.f_len (by decide +kernel) (ea_cons (ev_var 0 rfl (ea_nil (bc_lenL (bo_lt (is_df (by rw [List.length_map, List.length_range]; omega) (exs_nil ?_)))))))
  refine exs_cons (ex_setLc 4 (own := [("name", 2), ("many", 3)]) rfl sc_are_makers.nd (blkOk_by (by show blkC N_are_makers (defScope s_are_makers) _ _ = true; decide +kernel)) (takes_pair 2 3 (by decide) rfl sc_are_makers.nd rfl rfl (by intro _ _ _ _ _; exact .inl rfl) (by intro _ _ _ _ _; exact .inl rfl) (by intro _ _ _ _ _; exact .inr rfl) (by intro _ _ _ _ _; exact .inr rfl)) (ei_list (ev_var 0 rfl ⟨_, rfl, ?_⟩)) (by rfl))
  refine ⟨fun d hd => ?_, fun i acc => acc = nd (ws.take i), rfl, fun i d acc hd hi => ?_, fun acc hacc => ?_⟩
  · obtain ⟨i, hi⟩ := List.getElem?_of_mem hd
    obtain ⟨y, _, rfl⟩ := rowsK_inv hi
    rfl
  · have hil := (List.getElem?_eq_some_iff.mp hd).1
    obtain ⟨y, hy, rfl⟩ := rowsK_inv hd
    refine ⟨by rw [hi, nsI_len, List.length_take]; exact szl (by omega), fun s H0 C cl fp => ets_nil (t_t fun s H0 C cl fp => ?_)⟩
    refine ev_var 3 rfl ?_
    show acc ++ [nc y] = nd (ws.take (i + 1))
    rw [hi, List.take_add_one, hy, nd_app]
    rfl
  rw [hl, List.take_length] at hacc
  subst hacc
  refine exs_cons (ex_ret (ev_and (ev_cmp (by decide +kernel) (ev_int (ev_var 4 rfl (bo_inL (is_dt (nsI_mem.mpr hx.leaf) ?_)))))))
  refine ev_one (ev_cmp (by decide +kernel) (ev_callB (id := "max") T.f_max (by decide +kernel) (ea_cons (ev_var 4 rfl (ea_nil (bc_maxL rfl (by rw [List.length_map]; omega) fun m _ hm => ev_int (bo_gt ?_)))))))
  obtain ⟨y, hy, hy1⟩ := hx.wide
  have := hm _ (nsI_mem.mpr hy)
  show D.bl _ = D.bl true
  rw [decide_eq_true (by omega)]
abbrev cKind (C : Addr) : Con := ⟨List Nat, fun ws => [.dat (.lst (rowsK ws))], WsOk, fun ws d => d = kD C ws⟩
theorem ok_Kind (T : Txt K mg) : MakOk P w K mg base 4 (CK K) "Kind" (cKind (CK K)) := by
  refine m_Kind_init T (fun _ => rfl) fun f cdv A outer s H E hr B (ws : List Nat) a dx (hx : WsOk ws) => ?_
  refine exs_cons (ex_if (et_not (et_ev (by intro _; rfl) (ev_call (ok_are_makers T) (hr.mono (by decide)) (ea_cons (ev_var 1 rfl (ea_nil ⟨ws, rfl, hx, ?_⟩)))))))
  rintro d rfl
  refine is_nt (exs_nil ?_)
  refine exs_cons (ex_fld 0 rfl T.cKind T.naKind (by decide) (by decide) (ev_callTy (T := "list") T.f_list (by decide +kernel) (ea_cons (ev_var 1 rfl (ea_nil (bc_list (exs_nil ⟨_, _, rfl, rfl⟩)))))))
abbrev cEqK (C : Addr) : Con := ⟨List Nat, fun ws => [.dat (kD C ws), .dat (kD C ws)], fun _ => True, fun _ d => d = .bl true⟩
theorem ok_Kind_eq (T : Txt K mg) : MetOk P w K mg base 1 (CK K) "__eq__" (cEqK (CK K)) := by
  refine m_Kind_eq T (fun _ => rfl) fun f cdv A outer s H E hr B (ws : List Nat) _ => ?_
  refine exs_cons (ex_ret (ev_and (ev_isiO T.f_isinstance T.gKind T.ci.1 (ev_var 1 rfl ⟨_, _, rfl, is_t ?_⟩))))
  exact ev_one (ev_cmp (by decide +kernel) (ev_fld T.cKind T.naKind (ev_var 0 rfl ⟨_, _, _, rfl, rfl, ev_fld T.cKind T.naKind (ev_var 1 rfl ⟨_, _, _, rfl, rfl, bo_same (rowsK_pl ws) hr rfl⟩)⟩)))
theorem bo_neK {X : Cx} {B : Base} {δ : List Ent} {R : D → Prop} {k : Nat} {ws : List Nat} (T : Txt X.K X.mg) (F : MetOk X.prog X.w X.K X.mg X.base k (CK X.K) "__eq__" (cEqK (CK X.K))) (hr : Room (k + 1) X.A) (h : R (.bl false)) : Bo X B (compareOp .NotEq) (kD (CK X.K) ws) (kD (CK X.K) ws) δ R := by
  obtain ⟨f, fd, ps, cl, hM, hb, FO⟩ := F
  exact bo_neO FO hr hb T.ci.2 hM.at_ hM.fn T.ci.1.hm ⟨ws, rfl, trivial, fun d e => ⟨true, e, h⟩⟩
end
end BA

set_option maxHeartbeats 4000000
namespace BA
open PySem PySem.Spec PyProof.Rows L2
theorem atI_last {α : Type} (xs : List α) (d : α) : atI (xs ++ [d]) (-1) = some d := by
  unfold atI ixN
  rw [if_neg (by decide), if_pos (by rw [List.length_append]; show -((xs.length + 1 : Nat) : Int) ≤ -1; omega)]
  show (xs ++ [d])[(-1 + (((xs ++ [d]).length : Nat) : Int)).toNat]? = some d
  rw [List.length_append, show (-1 + ((xs.length + [d].length : Nat) : Int)).toNat = xs.length by show (-1 + ((xs.length + 1 : Nat) : Int)).toNat = xs.length; omega, List.getElem?_append_right (Nat.le_refl _), Nat.sub_self]
  rfl
theorem Run.ord {ws r r' : List Nat} {sts : List Stp} (h : Run ws r sts r') : RkOk r → ∀ {ps : List Nat}, Stp.ord ps ∈ sts → Pm ps.length ps ∧ ps.length ≤ 400 := by
  induction h with
  | nil => intro _ ps h; cases h
  | cons a b _ ih =>
    intro k ps h
    rcases List.mem_cons.mp h with rfl | h
    · have e := a.1.len
      exact ⟨by rw [e]; exact a.1, by rw [e]; exact k.1⟩
    · exact ih b h
theorem Run.undOk {ws r r' : List Nat} {sts : List Stp} (h : Run ws r sts r') (k : RkOk r) (pl : ∀ st ∈ sts, plain st) : ∀ st ∈ sts, undOk st := fun st hs => ⟨pl st hs, fun ps e => h.ord k (e ▸ hs)⟩
section
variable {P : Program} {w : World} {K : PySem.W.Frag} {mg : Str → Option Value} {base : Heap}
structure TU where
  ws : List Nat
  r : List Nat
  sts : List Stp
  r' : List Nat
abbrev stsD (sts : List Stp) : D := .lst (sts.map stD)
abbrev TU.ok (x : TU) : Prop := 0 < x.ws.length ∧ x.ws.length < 100 ∧ RkOk x.r ∧ x.sts.length ≤ 1000 ∧ Run x.ws x.r x.sts x.r'
abbrev cRacksOn (C : Addr) : Con := ⟨TU, fun x => [.dat (kD C x.ws), .dat (rackD x.r), .dat (stsD x.sts)], TU.ok, fun x d => ∃ xs : List D, d = .lst (xs ++ [rackD x.r'])⟩
theorem ok_racks_on (T : Txt K mg) : DefOk P w K mg base 9 "racks_on" (cRacksOn (CK K)) := by
  refine m_racks_on T (fun _ => rfl) fun f cdv A outer s H E hr B (x : TU) (hx : x.ok) => ?_
  obtain ⟨ws, r, sts, r'⟩ := x
  obtain ⟨h0, h1, h2, h3, h4⟩ : 0 < ws.length ∧ ws.length < 100 ∧ RkOk r ∧ sts.length ≤ 1000 ∧ Run ws r sts r' := hx
  show Exs _ B _ [.dat (kD (CK K) ws), .dat (rackD r), .dat (stsD sts), .unb, .unb, .unb] ⟨fun _ => _, fun d => ∃ xs : List D, d = .lst (xs ++ [rackD r']), fun _ => False, fun _ => False⟩
  refine exs_cons (ex_own 3 sc_racks_on.nd (ea_cons (ev_var 1 rfl (ea_nil (dats1 ⟨by show 1 ≤ sizeLine; decide, ?_⟩)))))
  refine exs_cons (ex_for PassesOwn.never rfl (ei_enumL T.f_enumerate (ev_var 2 rfl ⟨_, rfl, ?_⟩)))
  refine ⟨fun i δ' => ∃ (ys : List D) (mid : List Nat) (a b : Ent), δ' = [.dat (kD (CK K) ws), .dat (rackD r), .dat (stsD sts), .own .l (ys ++ [rackD mid]), a, b] ∧ ys.length = i ∧ RkOk mid ∧ Run ws mid (sts.drop i) r', ⟨[], r, _, _, rfl, rfl, h2, h4⟩, ?_, ?_⟩
  · rintro i d δ' hd ⟨ys, mid, a, b, rfl, k1, k2, k3⟩
    obtain ⟨x, hx, rfl⟩ := enumD_at hd
    rw [List.getElem?_map] at hx
    obtain ⟨st, hst, rfl⟩ := Option.map_eq_some_iff.mp hx
    have hil := (List.getElem?_eq_some_iff.mp hst).1
    rw [drop_at hst] at k3
    cases k3 with
    | @cons _ mid' _ _ _ z1 z2 z3 =>
      refine eg_tpw rfl (egs_cons (eg_name 4 sc_racks_on.nd (egs_cons (eg_name 5 sc_racks_on.nd (egs_nil ?_)))))
      refine exs_cons (ex_try (exs_cons (ex_append 3 rfl (by rw [List.length_append, k1]; exact szl (by show i + 1 ≤ _; omega)) ?_)))
      refine ev_call (ok_rack_after T) (hr.mono (by decide)) (ea_cons (ev_var 0 rfl (ea_cons (ev_ixOwn 3 rfl (ev_neg (ev_int ⟨_, rfl, ⟨_, rfl, atI_last ys _, ?_⟩⟩))))))
      refine ea_cons (ev_var 5 rfl (ea_nil ⟨⟨ws, mid, st, mid'⟩, rfl, ⟨⟨h0, h1, k2, z1⟩, z2⟩, ?_⟩))
      rintro d rfl
      exact exs_nil (exs_nil ⟨ys ++ [rackD mid], mid', _, _, rfl, by rw [List.length_append, k1]; rfl, z2, z3⟩)
  · rintro δ' ⟨ys, mid, a, b, rfl, k1, k2, k3⟩
    rw [enumD_length, List.length_map, List.drop_length] at k3
    have e : mid = r' := by cases k3; rfl
    subst e
    exact exs_freeze 3 rfl rfl (exs_cons (ex_ret (ev_var 3 rfl ⟨ys, rfl⟩)))
abbrev tD (K : PySem.W.Frag) (ws r : List Nat) (sts : List Stp) (r' : List Nat) (xs : List D) : D := .ins (CT K) ["kind", "passed", "done", "begin", "end"] [kD (CK K) ws, .lst xs, stsD sts, rackD r, rackD r']
abbrev cTurning (K : PySem.W.Frag) : Con := ⟨TU, fun x => [.dat (kD (CK K) x.ws), .dat (rackD x.r), .dat (stsD x.sts)], TU.ok, fun x d => ∃ xs, d = tD K x.ws x.r x.sts x.r' xs⟩
theorem ok_Turning (T : Txt K mg) : MakOk P w K mg base 10 (CT K) "Turning" (cTurning K) := by
  refine m_Turning_init T (fun _ => rfl) fun f cdv A outer s H E hr B (x : TU) a dx (hx : x.ok) => ?_
  refine exs_cons (ex_expr (ev_call (ok_rack_unless T) (hr.mono (by decide)) (ea_cons (ev_var 2 rfl (ea_nil ⟨x.r, rfl, hx.2.2.1, fun d _ => ?_⟩)))))
  refine exs_cons (ex_if (et_not (et_ev (by intro _; rfl) (ev_isi (k := true) (t := "list") (T := "list") T.f_isinstance T.f_list (by decide +kernel) (by decide +kernel) (ev_var 3 rfl ⟨rfl, is_nt (exs_nil ?_)⟩)))))
  refine exs_cons (ex_fld 0 rfl T.cTurning T.na_kind (by decide) (by decide) (ev_var 1 rfl ?_))
  refine exs_cons (ex_fld 0 rfl T.cTurning T.na_passed (by decide) (by decide) (ev_call (ok_racks_on T) (hr.mono (by decide)) (ea_cons (ev_var 1 rfl (ea_cons (ev_var 2 rfl (ea_cons (ev_var 3 rfl (ea_nil ⟨x, rfl, hx, ?_⟩)))))))))
  rintro d ⟨xs, rfl⟩
  refine exs_cons (ex_fld 0 rfl T.cTurning T.na_done (by decide) (by decide) (ev_callTy (T := "list") T.f_list (by decide +kernel) (ea_cons (ev_var 3 rfl (ea_nil (bc_list ?_))))))
  refine exs_cons (ex_fld 0 rfl T.cTurning T.na_begin (by decide) (by decide) (ev_var 2 rfl ?_))
  refine exs_cons (ex_fld 0 rfl T.cTurning T.na_end (by decide) (by decide) (ev_ix (ev_fldOwn 0 rfl T.cTurning T.na_passed rfl (ev_neg (ev_int ⟨_, rfl, bix_lst (atI_last xs _) ?_⟩)))))
  exact exs_nil ⟨_, _, rfl, _, rfl⟩
structure TV where
  u : TU
  xs : List D
abbrev cSteps (K : PySem.W.Frag) : Con := ⟨TV, fun x => [.dat (tD K x.u.ws x.u.r x.u.sts x.u.r' x.xs)], fun _ => True, fun x d => d = stsD x.u.sts⟩
theorem ok_Turning_steps (T : Txt K mg) : MetOk P w K mg base 1 (CT K) "steps" (cSteps K) := by
  refine m_Turning_steps T (fun _ => rfl) fun f cdv A outer s H E hr B (x : TV) _ => ?_
  exact exs_cons (ex_ret (ev_callTy (T := "list") T.f_list (by decide +kernel) (ea_cons (ev_fld T.cTurning T.na_done (ev_var 0 rfl ⟨_, _, _, rfl, rfl, ea_nil (bc_list rfl)⟩)))))
structure TW where
  u : TU
  xs : List D
  t : Th
  t' : Th
abbrev TW.ok (x : TW) : Prop := TU.ok x.u ∧ (∀ st ∈ x.u.sts, plain st) ∧ ThOk x.u.ws x.u.r x.t ∧ MvRun x.u.ws x.t x.u.sts x.t'
abbrev cRun (K : PySem.W.Frag) : Con := ⟨TW, fun x => [.dat (tD K x.u.ws x.u.r x.u.sts x.u.r' x.xs), .dat (thD x.t)], TW.ok, fun x d => d = thD x.t'⟩
theorem ok_Turning_run (T : Txt K mg) : MetOk P w K mg base 8 (CT K) "run" (cRun K) := by
  refine m_Turning_run T (fun _ => rfl) fun f cdv A outer s H E hr B (x : TW) (hx : x.ok) => ?_
  obtain ⟨⟨ws, r, sts, r'⟩, xs, t, t'⟩ := x
  obtain ⟨⟨h0, h1, h2, h3, h4⟩, h5, h6, h7⟩ : (0 < ws.length ∧ ws.length < 100 ∧ RkOk r ∧ sts.length ≤ 1000 ∧ Run ws r sts r') ∧ (∀ st ∈ sts, plain st) ∧ ThOk ws r t ∧ MvRun ws t sts t' := hx
  show Exs _ B _ [.dat (tD K ws r sts r' xs), .dat (thD t), .unb] ⟨fun _ => _, fun d => d = thD t', fun _ => False, fun _ => False⟩
  refine exs_cons (ex_if (et_not (et_ev (by intro _; rfl) (ev_call (ok_is_thing T) (hr.mono (by decide)) (ea_cons (ev_fld T.cTurning T.na_kind (ev_var 0 rfl ⟨_, _, _, rfl, rfl, ?_⟩)))))))
  refine ea_cons (ev_fld T.cTurning T.na_begin (ev_var 0 rfl ⟨_, _, _, rfl, rfl, ea_cons (ev_var 1 rfl (ea_nil ⟨(ws, r, t), rfl, ⟨h6, h2⟩, ?_⟩))⟩))
  rintro d rfl
  refine is_nt (exs_nil ?_)
  refine exs_cons (ex_for PassesOwn.never rfl (ei_list (ev_fld T.cTurning T.na_done (ev_var 0 rfl ⟨_, _, _, rfl, rfl, _, rfl, ?_⟩))))
  refine ⟨fun i δ' => ∃ (u : Th) (a : Ent), δ' = [.dat (tD K ws r sts r' xs), .dat (thD u), a] ∧ u.f.wf ws ∧ u.f.code.length ≤ 1000 ∧ MvRun ws u (sts.drop i) t', ⟨t, _, rfl, h6.2.1, h6.1.2.1, h7⟩, ?_, ?_⟩
  · rintro i d δ' hd ⟨u, a, rfl, k1, k2, k3⟩
    rw [List.getElem?_map] at hd
    obtain ⟨st, hst, rfl⟩ := Option.map_eq_some_iff.mp hd
    rw [drop_at hst] at k3
    cases k3 with
    | @cons _ u' _ _ _ z1 z2 =>
      refine eg_name 2 sc_Turning_run.nd ?_
      refine exs_cons (ex_set 1 sc_Turning_run.nd (ev_call (ok_moved T) (hr.mono (by decide)) (ea_cons (ev_fld T.cTurning T.na_kind (ev_var 0 rfl ⟨_, _, _, rfl, rfl, ?_⟩)))))
      refine ea_cons (ev_var 2 rfl (ea_cons (ev_var 1 rfl (ea_nil ⟨⟨ws, st, u, u'⟩, rfl, ⟨h0, h1, k1, k2, z1⟩, ?_⟩))))
      rintro d rfl
      exact exs_nil ⟨u', _, rfl, z1.wf.mp k1, Nat.le_trans (z1.codeLe (h5 st (List.mem_of_getElem? hst))) k2, z2⟩
  · rintro δ' ⟨u, a, rfl, k1, k2, k3⟩
    rw [List.length_map, List.drop_length] at k3
    have e := k3.nil_eq
    subst e
    exact exs_cons (ex_ret (ev_var 1 rfl rfl))
abbrev TW.ok2 (x : TW) : Prop := TW.ok x ∧ ThOk x.u.ws x.u.r' x.t' ∧ RkOk x.u.r'
abbrev cBack (K : PySem.W.Frag) : Con := ⟨TW, fun x => [.dat (tD K x.u.ws x.u.r x.u.sts x.u.r' x.xs), .dat (thD x.t')], TW.ok2, fun x d => d = thD x.t⟩
theorem ok_Turning_back (T : Txt K mg) : MetOk P w K mg base 8 (CT K) "back" (cBack K) := by
  refine m_Turning_back T (fun _ => rfl) fun f cdv A outer s H E hr B (x : TW) (hx : x.ok2) => ?_
  obtain ⟨⟨ws, r, sts, r'⟩, xs, t, t'⟩ := x
  obtain ⟨⟨⟨h0, h1, h2, h3, h4⟩, h5, h6, h7⟩, h8, h9⟩ : ((0 < ws.length ∧ ws.length < 100 ∧ RkOk r ∧ sts.length ≤ 1000 ∧ Run ws r sts r') ∧ (∀ st ∈ sts, plain st) ∧ ThOk ws r t ∧ MvRun ws t sts t') ∧ ThOk ws r' t' ∧ RkOk r' := hx
  show Exs _ B _ [.dat (tD K ws r sts r' xs), .dat (thD t'), .unb] ⟨fun _ => _, fun d => d = thD t, fun _ => False, fun _ => False⟩
  refine exs_cons (ex_if (et_not (et_ev (by intro _; rfl) (ev_call (ok_is_thing T) (hr.mono (by decide)) (ea_cons (ev_fld T.cTurning T.na_kind (ev_var 0 rfl ⟨_, _, _, rfl, rfl, ?_⟩)))))))
  refine ea_cons (ev_fld T.cTurning T.na_end (ev_var 0 rfl ⟨_, _, _, rfl, rfl, ea_cons (ev_var 1 rfl (ea_nil ⟨(ws, r', t'), rfl, ⟨h8, h9⟩, ?_⟩))⟩))
  rintro d rfl
  refine is_nt (exs_nil ?_)
  refine exs_cons (ex_for PassesOwn.never rfl (ei_revL T.f_reversed (ev_fld T.cTurning T.na_done (ev_var 0 rfl ⟨_, _, _, rfl, rfl, _, rfl, ?_⟩))))
  refine ⟨fun i δ' => ∃ (u : Th) (a : Ent), δ' = [.dat (tD K ws r sts r' xs), .dat (thD u), a] ∧ MvRun ws t (sts.take (sts.length - i)) u, ⟨t', _, rfl, by rw [Nat.sub_zero, List.take_length]; exact h7⟩, ?_, ?_⟩
  · rintro i d δ' hd ⟨u, a, rfl, k3⟩
    have hil := (List.getElem?_eq_some_iff.mp hd).1
    rw [List.length_reverse, List.length_map] at hil
    rw [List.getElem?_reverse (by rw [List.length_map]; exact hil), List.getElem?_map, List.length_map] at hd
    obtain ⟨st, hst, rfl⟩ := Option.map_eq_some_iff.mp hd
    have hm := List.mem_of_getElem? hst
    have e1 : sts.length - i = (sts.length - 1 - i) + 1 := by omega
    rw [e1, List.take_add_one, hst, show (some st).toList = [st] from rfl] at k3
    obtain ⟨u', y1, y2⟩ := k3.split
    have y2 := y2.one
    have hu := h4.undOk h2 h5 st hm
    have pl : ∀ s ∈ sts.take (sts.length - 1 - i) ++ [st], plain s := fun s hs => by
      rcases List.mem_append.mp hs with hs | hs
      · exact h5 s (List.mem_of_mem_take hs)
      · have e := List.mem_singleton.mp hs
        rw [e]
        exact h5 st hm
    refine eg_name 2 sc_Turning_back.nd ?_
    refine exs_cons (ex_set 1 sc_Turning_back.nd (ev_call (ok_moved T) (hr.mono (by decide)) (ea_cons (ev_fld T.cTurning T.na_kind (ev_var 0 rfl ⟨_, _, _, rfl, rfl, ?_⟩)))))
    refine ea_cons (ev_call (ok_undone_step T) (hr.mono (by decide)) (ea_cons (ev_var 2 rfl (ea_nil ⟨st, rfl, hu, ?_⟩))))
    rintro d rfl
    refine ea_cons (ev_var 1 rfl (ea_nil ⟨⟨ws, und st, u, u'⟩, rfl, ⟨h0, h1, k3.wf.mp h6.2.1, Nat.le_trans (k3.codeLe pl) h6.1.2.1, ?_⟩, ?_⟩))
    · exact Mv.und (n := match st with | .ord ps => ps.length | _ => 0) (fun ps e => by subst e; exact (hu.2 ps rfl).1) y2
    · rintro d rfl
      exact exs_nil ⟨u', _, rfl, by rw [show sts.length - (i + 1) = sts.length - 1 - i by omega]; exact y1⟩
  · rintro δ' ⟨u, a, rfl, k3⟩
    rw [List.length_reverse, List.length_map, Nat.sub_self] at k3
    have e := k3.nil_eq
    subst e
    exact exs_cons (ex_ret (ev_var 1 rfl rfl))
abbrev TV.ok (x : TV) : Prop := TU.ok x.u ∧ ∀ st ∈ x.u.sts, plain st
abbrev cTurned (K : PySem.W.Frag) : Con := ⟨TV, fun x => [.dat (tD K x.u.ws x.u.r x.u.sts x.u.r' x.xs)], TV.ok, fun x d => ∃ ys, d = tD K x.u.ws x.u.r' (x.u.sts.reverse.map und) x.u.r ys⟩
theorem ok_Turning_turned (T : Txt K mg) : MetOk P w K mg base 12 (CT K) "turned" (cTurned K) := by
  refine m_Turning_turned T (fun _ => rfl) fun f cdv A outer s H E hr B (x : TV) (hx : x.ok) => ?_
  obtain ⟨⟨ws, r, sts, r'⟩, xs⟩ := x
  obtain ⟨⟨h0, h1, h2, h3, h4⟩, h5⟩ : (0 < ws.length ∧ ws.length < 100 ∧ RkOk r ∧ sts.length ≤ 1000 ∧ Run ws r sts r') ∧ (∀ st ∈ sts, plain st) := hx
  show Exs _ B _ [.dat (tD K ws r sts r' xs), .unb] ⟨fun _ => _, fun d => ∃ ys, d = tD K ws r' (sts.reverse.map und) r ys, fun _ => False, fun _ => False⟩
  have hu := h4.und h2
  refine exs_cons (ex_ret (ev_make (ok_Turning T) (hr.mono (by decide)) (ea_cons (ev_fld T.cTurning T.na_kind (ev_var 0 rfl ⟨_, _, _, rfl, rfl, ?_⟩)))))
  refine ea_cons (ev_fld T.cTurning T.na_end (ev_var 0 rfl ⟨_, _, _, rfl, rfl, ?_⟩))
  refine ea_cons (ev_lcG (own := [("step", 1)]) rfl sc_Turning_turned.nd (blkOk_by (by show blkC N_Turning_turned (defScope s_Turning_turned) _ _ = true; decide +kernel)) (takes_name 1 sc_Turning_turned.nd rfl (by intro _ _ _ _ _; exact .inl rfl) (by intro _ _ _ _ _; exact .inr rfl)) (ei_revL T.f_reversed (ev_fld T.cTurning T.na_done (ev_var 0 rfl ⟨_, _, _, rfl, rfl, _, rfl, ?_⟩))))
  refine ⟨fun _ _ => trivial, fun i acc => acc = (sts.reverse.take i).map fun st => stD (und st), rfl, fun i d acc hd hi => ?_, fun acc hacc => ?_⟩
  · rw [← List.map_reverse, List.getElem?_map] at hd
    obtain ⟨st, hst, rfl⟩ := Option.map_eq_some_iff.mp hd
    have hil := (List.getElem?_eq_some_iff.mp hst).1
    rw [List.length_reverse] at hil
    refine ⟨by rw [hi, List.length_map, List.length_take, List.length_reverse]; exact szl (by omega), fun s H0 C cl fp => ets_nil (t_t fun s H0 C cl fp => ?_)⟩
    refine ev_call (ok_undone_step T) (hr.mono (by decide)) (ea_cons (ev_var 1 rfl (ea_nil ⟨st, rfl, h4.undOk h2 h5 st (List.mem_reverse.mp (List.mem_of_getElem? hst)), ?_⟩)))
    rintro d rfl
    show acc ++ [stD (und st)] = _
    rw [hi, List.take_add_one, hst, List.map_append]
    rfl
  · rw [← List.map_reverse, List.length_map, List.take_length] at hacc
    subst hacc
    refine ea_nil ⟨⟨ws, r', sts.reverse.map und, r⟩, ?_, ⟨h0, h1, hu.2, by show (sts.reverse.map und).length ≤ 1000; rw [List.length_map, List.length_reverse]; exact h3, hu.1⟩, fun d h => h⟩
    show [_, _, Ent.dat (D.lst (sts.reverse.map fun st => stD (und st)))] = [_, _, Ent.dat (D.lst ((sts.reverse.map und).map stD))]
    rw [List.map_map]
    rfl
structure JN where
  a : TU
  xs : List D
  b : TU
  ys : List D
abbrev JN.ok (x : JN) : Prop := TU.ok x.a ∧ TU.ok x.b ∧ x.a.ws = x.b.ws ∧ x.a.r' = x.b.r ∧ x.a.sts.length + x.b.sts.length ≤ 1000
abbrev cJoin (K : PySem.W.Frag) : Con := ⟨JN, fun x => [.dat (tD K x.a.ws x.a.r x.a.sts x.a.r' x.xs), .dat (tD K x.b.ws x.b.r x.b.sts x.b.r' x.ys)], JN.ok, fun x d => ∃ zs, d = tD K x.a.ws x.a.r (x.a.sts ++ x.b.sts) x.b.r' zs⟩
theorem ok_join (T : Txt K mg) : DefOk P w K mg base 12 "join" (cJoin K) := by
  refine m_join T (fun _ => rfl) fun f cdv A outer s H E hr B (x : JN) (hx : x.ok) => ?_
  obtain ⟨⟨ws, r, sts, m⟩, xs, ⟨ws2, m2, sts2, r'⟩, ys⟩ := x
  obtain ⟨⟨h0, h1, h2, h3, h4⟩, ⟨k0, k1, k2, k3, k4⟩, e1, e2, h6⟩ : (0 < ws.length ∧ ws.length < 100 ∧ RkOk r ∧ sts.length ≤ 1000 ∧ Run ws r sts m) ∧ (0 < ws2.length ∧ ws2.length < 100 ∧ RkOk m2 ∧ sts2.length ≤ 1000 ∧ Run ws2 m2 sts2 r') ∧ ws = ws2 ∧ m = m2 ∧ sts.length + sts2.length ≤ 1000 := hx
  subst e1 e2
  show Exs _ B _ [.dat (tD K ws r sts m xs), .dat (tD K ws m sts2 r' ys)] ⟨fun _ => _, fun d => ∃ zs, d = tD K ws r (sts ++ sts2) r' zs, fun _ => False, fun _ => False⟩
  refine exs_cons (ex_if (et_w (ew_or (et_cmp (by decide +kernel) (ev_fld T.cTurning T.na_kind (ev_var 0 rfl ⟨_, _, _, rfl, rfl, ev_fld T.cTurning T.na_kind (ev_var 1 rfl ⟨_, _, _, rfl, rfl, ?_⟩)⟩))))))
  refine bo_neK T (ok_Kind_eq T) (hr.mono (by decide)) (is_f (ew_or1 (et_cmp (by decide +kernel) (ev_fld T.cTurning T.na_end (ev_var 0 rfl ⟨_, _, _, rfl, rfl, ev_fld T.cTurning T.na_begin (ev_var 1 rfl ⟨_, _, _, rfl, rfl, bo_differ (nd_pl _) hr (is_f (exs_nil ?_))⟩)⟩)))))
  refine exs_cons (ex_ret (ev_make (ok_Turning T) (hr.mono (by decide)) (ea_cons (ev_fld T.cTurning T.na_kind (ev_var 0 rfl ⟨_, _, _, rfl, rfl, ?_⟩)))))
  refine ea_cons (ev_fld T.cTurning T.na_begin (ev_var 0 rfl ⟨_, _, _, rfl, rfl, ?_⟩))
  refine ea_cons (ev_bin (ev_meth0 (ok_Turning_steps T) (hr.mono (by decide)) (by decide) (ev_var 0 rfl ⟨_, rfl, ⟨⟨ws, r, sts, m⟩, xs⟩, rfl, trivial, ?_⟩)))
  rintro d rfl
  refine ev_meth0 (ok_Turning_steps T) (hr.mono (by decide)) (by decide) (ev_var 1 rfl ⟨_, rfl, ⟨⟨ws, m, sts2, r'⟩, ys⟩, rfl, trivial, ?_⟩)
  rintro d rfl
  refine bo_addL (by rw [List.length_map, List.length_map]; exact sz (by show sts.length + sts2.length ≤ _; omega)) (ea_nil ⟨⟨ws, r, sts ++ sts2, r'⟩, ?_, ⟨h0, h1, h2, by show (sts ++ sts2).length ≤ 1000; rw [List.length_append]; exact h6, h4.append k4⟩, fun d h => h⟩)
  show [_, _, Ent.dat (D.lst (sts.map stD ++ sts2.map stD))] = [_, _, Ent.dat (D.lst ((sts ++ sts2).map stD))]
  rw [List.map_append]
  rfl
end
end BA

set_option maxHeartbeats 4000000
namespace BA
open PySem PySem.Spec PyProof.Rows L2
/-! plain: the next hole -/
theorem first_split {x : Int} : ∀ {l : List Int}, x ∈ l → ∃ P Q, l = P ++ x :: Q ∧ x ∉ P
  | [], h => by cases h
  | a :: l, h => by
    by_cases e : a = x
    · exact ⟨[], l, by rw [e]; rfl, by simp⟩
    · obtain ⟨P, Q, h1, h2⟩ := first_split ((List.mem_cons.mp h).resolve_left fun z => e z.symm)
      exact ⟨a :: P, Q, by rw [h1]; rfl, fun z => (List.mem_cons.mp z).elim (fun y => e y.symm) h2⟩
theorem next_hole {row : List Int} {s c : Nat} (h : (row.take s).count (-1) = c) (hc : c < row.count (-1)) : ∃ j, First row (-1) s j ∧ (row.take j).count (-1) = c := by
  have e : row = row.take s ++ row.drop s := (List.take_append_drop s row).symm
  have hm : (-1 : Int) ∈ row.drop s := by
    apply List.count_pos_iff.mp
    have := congrArg (List.count (-1)) e
    rw [List.count_append] at this
    omega
  have hs : s ≤ row.length := by
    by_cases z : s ≤ row.length
    · exact z
    · rw [List.drop_of_length_le (by omega)] at hm; cases hm
  obtain ⟨P, Q, h1, h2⟩ := first_split hm
  have e2 : row = (row.take s ++ P) ++ -1 :: Q := by rw [List.append_assoc, ← h1]; exact e
  have hl : (row.take s ++ P).length = s + P.length := by rw [List.length_append, List.length_take, Nat.min_eq_left hs]
  refine ⟨s + P.length, ⟨by omega, ?_, fun m hm1 hm2 z => ?_⟩, ?_⟩
  · rw [e2, List.getElem?_append_right (by omega), hl, Nat.sub_self]; rfl
  · rw [e2, List.getElem?_append_left (by omega), List.getElem?_append_right (by rw [List.length_take, Nat.min_eq_left hs]; exact hm1)] at z
    exact h2 (List.mem_of_getElem? z)
  · have : row.take (s + P.length) = row.take s ++ P := by
      conv => lhs; rw [e2]
      rw [← hl, List.take_left]
    rw [this, List.count_append, h, List.count_eq_zero.mpr h2]
    rfl
theorem hole_uniq {A Z : List Int} {j k : Nat} (hj : (A ++ -1 :: Z)[j]? = some (-1)) (hc : ((A ++ -1 :: Z).take j).count (-1) = k) (hA : A.count (-1) = k) : j = A.length := by
  rcases Nat.lt_trichotomy j A.length with h | h | h
  · exfalso
    have e1 : (A ++ -1 :: Z).take (j + 1) = (A ++ -1 :: Z).take j ++ [-1] := by rw [List.take_add_one, hj]; rfl
    have e2 : (A ++ -1 :: Z).take (j + 1) = A.take (j + 1) := List.take_append_of_le_length (by omega)
    have h3 := (List.take_sublist (j + 1) A).count_le (-1)
    rw [← e2, e1, List.count_append, hc, hA] at h3
    have : ([-1] : List Int).count (-1) = 1 := rfl
    omega
  · exact h
  · exfalso
    obtain ⟨d, rfl⟩ : ∃ d, j = A.length + (d + 1) := ⟨j - A.length - 1, by omega⟩
    rw [List.take_append, List.take_of_length_le (by omega), show A.length + (d + 1) - A.length = d + 1 by omega, List.take_succ_cons, List.count_append, List.count_cons_self, hA] at hc
    omega
abbrev pairD (q : Th × Th) : D := .tup [thD q.1, thD q.2]
abbrev tabD (rows : List (Th × Th)) : D := .lst (rows.map pairD)
theorem thD_pl (t : Th) : D.pl (thD t) 60 = true := by
  show (true && (D.pls (t.f.code.map D.int) 58 && true)) = true
  rw [D.pls_ints]
  rfl
def optD : Option Nat → D
  | none => .non
  | some k => nc k
section
variable {P : Program} {w : World} {K : PySem.W.Frag} {mg : Str → Option Value} {base : Heap}
abbrev cAsked : Con := ⟨List D, fun xs => [.dat (.lst xs)], fun xs => xs.length ≤ 400, fun _ d => d = .non⟩
theorem ok_asked_rows (T : Txt K mg) : DefOk P w K mg base 1 "asked_rows" cAsked := by
  refine m_asked_rows T (fun _ => rfl) fun f cdv A outer s H E hr B (xs : List D) (hx : xs.length ≤ 400) => ?_
  refine exs_cons (ex_if (et_cmp (by decide +kernel) (ev_callB (id := "len") T.f_len (by decide +kernel) (ea_cons (ev_var 0 rfl (ea_nil (bc_lenL (ev_gint T.i_MOST_ROWS (bo_gt (is_df (by omega) (exs_nil (exs_nil rfl))))))))))))
structure GA where
  ws : List Nat
  t : Th
  k : Nat
  m : Nat
abbrev moreD (ws : List Nat) (m : Nat) : List Int := (m : Nat) :: List.replicate (ws.getD m 0) (-1)
abbrev GA.ok (x : GA) : Prop := x.k < x.t.f.holes ∧ x.t.f.code.length ≤ 1000 ∧ x.ws.getD x.m 0 ≤ 4
abbrev cGrown : Con := ⟨GA, fun x => [.dat (thD x.t), .dat (nc x.k), .dat (.tup ((moreD x.ws x.m).map D.int))], GA.ok, fun x d => d = thD (gr x.ws x.k x.m x.t)⟩
theorem ok_grown_at (T : Txt K mg) : DefOk P w K mg base 1 "grown_at" cGrown := by
  refine m_grown_at T (fun _ => rfl) fun f cdv A outer s H E hr B (x : GA) (hx : x.ok) => ?_
  obtain ⟨ws, t, k, m⟩ := x
  obtain ⟨h1, h2, h3⟩ : k < t.f.holes ∧ t.f.code.length ≤ 1000 ∧ ws.getD m 0 ≤ 4 := hx
  show Exs _ B _ [.dat (thD t), .dat (nc k), .dat (.tup ((moreD ws m).map D.int)), .unb, .unb, .unb, .unb] ⟨fun _ => _, fun d => d = thD (gr ws k m t), fun _ => False, fun _ => False⟩
  have hk : k < 1000 := by
    have := List.count_le_length (a := (-1 : Int)) (l := t.f.code)
    rw [Fo.code_count] at this
    omega
  refine exs_cons (ex_asg (ev_var 0 rfl (eg_tup rfl (egs_cons (eg_name 3 sc_grown_at.nd (egs_cons (eg_name 4 sc_grown_at.nd (egs_nil ?_))))))))
  refine exs_cons (ex_set 5 sc_grown_at.nd (ev_neg (ev_int ⟨_, rfl, ?_⟩)))
  refine exs_cons (ex_for PassesOwn.never rfl (ei_rg1 T.f_range (ev_bin (ev_var 1 rfl (ev_int (bo_add ⟨_, rfl, by omega, by omega, ?_⟩))))))
  refine ⟨fun i δ' => ∃ (at_ : Int) (b : Ent), δ' = [.dat (thD t), .dat (nc k), .dat (.tup ((moreD ws m).map D.int)), .dat (nc t.at_), .dat (rowD t.f), .dat (.int at_), b] ∧ -1 ≤ at_ ∧ (t.f.code.take (at_ + 1).toNat).count (-1) = i ∧ (0 < i → ∃ j : Nat, at_ = j ∧ t.f.code[j]? = some (-1) ∧ (t.f.code.take j).count (-1) + 1 = i),
    ⟨-1, _, rfl, by omega, rfl, fun z => absurd z (Nat.lt_irrefl 0)⟩, ?_, ?_⟩
  · rintro i d δ' hd ⟨at_, b, rfl, k1, k2, k3⟩
    have hil : i < k + 1 := by
      have := (List.getElem?_eq_some_iff.mp hd).1
      rw [List.length_map, List.length_range] at this
      omega
    rw [List.getElem?_map] at hd
    obtain ⟨y, _, rfl⟩ := Option.map_eq_some_iff.mp hd
    obtain ⟨j, hj1, hj2⟩ := next_hole k2 (by rw [Fo.code_count]; omega)
    refine eg_name 6 sc_grown_at.nd ?_
    refine exs_cons (ex_set 5 sc_grown_at.nd (ev_idxT2 (ev_var 4 rfl ⟨_, rfl, ea_cons (ev_gint T.i_HOLE (ea_cons (ev_bin (ev_var 5 rfl (ev_int (bo_add (ea_nil (dats2 ⟨_, _, j, rfl, by omega, hj1, ?_⟩))))))))⟩)))
    have e1 : t.f.code.take (j + 1) = t.f.code.take j ++ [-1] := by rw [List.take_add_one, hj1.2.1]; rfl
    refine exs_nil ⟨((j : Nat) : Int), .dat (.int (0 + ((y : Nat) : Int))), rfl, by omega, ?_, fun _ => ⟨j, rfl, hj1.2.1, by rw [hj2]⟩⟩
    rw [show (((j : Nat) : Int) + 1).toNat = j + 1 by omega, e1, List.count_append, hj2]
    rfl
  · rintro δ' ⟨at_, b, rfl, k1, k2, k3⟩
    have hl : (rgD 0 (((k : Nat) : Int) + 1)).length = k + 1 := by rw [List.length_map, List.length_range]; omega
    rw [hl] at k3
    obtain ⟨j, rfl, k4, k5⟩ := k3 (Nat.succ_pos k)
    obtain ⟨X, Z, e1, e2, e3⟩ := Fo.grow_code (m := m) (w := ws.getD m 0) h1
    have ej : j = X.length := by
      rw [e1] at k4 k5
      exact hole_uniq (k := k) k4 (by omega) e2
    subst ej
    have hc : X.length + (Z.length + 1) ≤ 1000 := by rw [e1, List.length_append, List.length_cons] at h2; exact h2
    show Exs _ B _ [.dat (thD t), .dat (nc k), .dat (.tup ((moreD ws m).map D.int)), .dat (nc t.at_), .dat (.tup (t.f.code.map D.int)), .dat (nc X.length), b] ⟨fun _ => _, fun d => d = thD (gr ws k m t), fun _ => False, fun _ => False⟩
    rw [e1]
    refine exs_cons (ex_ret (ev_tup (ea_cons (ev_var 3 rfl (ea_cons (ev_bin (ev_bin (ev_sl (ev_var 4 rfl (eo_none (eo_some (ev_var 5 rfl ⟨_, rfl, bsl_tup ?_⟩))))))))))))
    rw [cut_at.1]
    refine ev_var 2 rfl (bo_addT (by rw [List.length_map, List.length_map, List.length_cons, List.length_replicate]; exact sz (by omega)) ?_)
    refine ev_sl (ev_var 4 rfl (eo_some (ev_bin (ev_var 5 rfl (ev_int (bo_add ⟨_, rfl, eo_none (bsl_tup ?_)⟩))))))
    rw [cut_at.2]
    refine bo_addT (by rw [List.length_append, List.length_map, List.length_map, List.length_map, List.length_cons, List.length_replicate]; exact sz (by omega)) (ea_nil (dats2 ⟨by show 2 ≤ sizeLine; decide, ?_⟩))
    show D.tup [nc t.at_, .tup _] = D.tup [nc t.at_, .tup ((t.f.grow k m (ws.getD m 0)).code.map D.int)]
    rw [e3, ← List.map_append, ← List.map_append, List.append_assoc]
    rfl
structure HO3 where
  ws : List Nat
  st : Stp
  t : Th
abbrev HO3.ok (x : HO3) : Prop := x.t.f.wf x.ws ∧ x.t.f.code.length ≤ 1000 ∧ ∀ p s, x.st = .op p s → x.t.at_ = p → s < x.t.f.len
abbrev cHoleOp (C : Addr) : Con := ⟨HO3, fun x => [.dat (kD C x.ws), .dat (stD x.st), .dat (thD x.t)], HO3.ok, fun x d => d = optD (hop x.st x.t)⟩
theorem ok_hole_opened (T : Txt K mg) : DefOk P w K mg base 6 "hole_opened" (cHoleOp (CK K)) := by
  refine m_hole_opened T (fun _ => rfl) fun f cdv A outer s H E hr B (x : HO3) (hx : x.ok) => ?_
  obtain ⟨ws, st, t⟩ := x
  obtain ⟨h1, h2, h3⟩ : t.f.wf ws ∧ t.f.code.length ≤ 1000 ∧ ∀ p s, st = .op p s → t.at_ = p → s < t.f.len := hx
  show Exs _ B _ [.dat (kD (CK K) ws), .dat (stD st), .dat (thD t), .unb, .unb] ⟨fun _ => _, fun d => d = optD (hop st t), fun _ => False, fun _ => False⟩
  cases st with
  | cl p sl =>
    refine exs_cons (ex_if (et_w (ew_or (et_cmp (by decide +kernel) (ev_ix (ev_var 1 rfl (ev_int (bix_tup (by rfl) (ev_str (bo_neS (b := false) (by decide +kernel) (is_t ?_)))))))))))
    exact t_t (exs_cons (ex_ret (ev_non rfl)))
  | ord ps =>
    refine exs_cons (ex_if (et_w (ew_or (et_cmp (by decide +kernel) (ev_ix (ev_var 1 rfl (ev_int (bix_tup (by rfl) (ev_str (bo_neS (b := false) (by decide +kernel) (is_t ?_)))))))))))
    exact t_t (exs_cons (ex_ret (ev_non rfl)))
  | op p sl =>
    refine exs_cons (ex_if (et_w (ew_or (et_cmp (by decide +kernel) (ev_ix (ev_var 1 rfl (ev_int (bix_tup (by rfl) (ev_str (bo_neS (b := true) (by decide +kernel) (is_f ?_)))))))))))
    refine ew_or1 (et_cmp (by decide +kernel) (ev_ix (ev_var 1 rfl (ev_int (bix_tup (by rfl) (ev_ix (ev_var 2 rfl (ev_int (bix_tup (by rfl) (bo_ne (is_nd (fun z => ?_) fun z => ?_)))))))))))
    · refine exs_cons (ex_ret (ev_non ?_))
      show D.non = optD _
      rw [hop_op, if_neg (by omega)]
      rfl
    · have z : p = t.at_ := by omega
      have hs := h3 p sl rfl z.symm
      have hsl := len_le_code t.f
      obtain ⟨X, c, Z, e1, e2, e3, e4⟩ := Fo.holeAt_code hs
      refine exs_nil (exs_cons (ex_set 3 sc_hole_opened.nd (ev_ix (ev_var 2 rfl (ev_int (bix_tup (by rfl) ?_))))))
      refine exs_cons (ex_set 4 sc_hole_opened.nd (ev_call (ok_slot_begin T) (hr.mono (by decide)) (ea_cons (ev_var 0 rfl (ea_cons (ev_var 3 rfl (ea_cons (ev_ix (ev_var 1 rfl (ev_int (bix_tup (by rfl) (ea_nil ⟨(ws, t.f, sl), rfl, ⟨h1, by show sl ≤ t.f.len; omega, by show sl < 1000000; omega⟩, ?_⟩))))))))))))
      rintro d rfl
      show Exs _ B _ [.dat (kD (CK K) ws), .dat (stD (.op p sl)), .dat (thD t), .dat (.tup (t.f.code.map D.int)), .dat (nc (t.f.pre sl))] ⟨fun _ => _, fun d => d = optD (hop (.op p sl) t), fun _ => False, fun _ => False⟩
      rw [e2, e1, hop_op, if_pos z]
      have hat : ((X ++ c :: Z).map D.int)[X.length]? = some (.int c) := ints_at (by rw [List.getElem?_append_right (Nat.le_refl _), Nat.sub_self]; rfl)
      refine exs_cons (ex_if (et_cmp (by decide +kernel) (ev_ix (ev_var 3 rfl (ev_var 4 rfl (bix_tup (atI_nat hat) (ev_gint T.i_HOLE (bo_ne (is_nd (fun y => ?_) fun y => ?_)))))))))
      · refine exs_cons (ex_ret (ev_non ?_))
        show D.non = optD _
        cases e : t.f.holeAt sl with
        | none => rfl
        | some k => exact absurd (e4 k e).1 y
      · refine exs_nil (exs_cons (ex_ret (ev_cntT (ev_sl (ev_var 3 rfl (eo_none (eo_some (ev_var 4 rfl ⟨_, rfl, bsl_tup ⟨X, ?_, ?_⟩⟩))))))))
        · rw [cut_at.1]
        · refine ea_cons (ev_gint T.i_HOLE (ea_nil (dats1 ⟨_, rfl, ?_⟩)))
          cases e : t.f.holeAt sl with
          | none => exact absurd y (e3 e)
          | some k =>
            show D.int _ = nc k
            rw [(e4 k e).2]
structure PR where
  ws : List Nat
  st : Stp
  r : Th × Th
abbrev PR.ok (x : PR) : Prop := x.ws.length ≤ 5 ∧ (∀ w ∈ x.ws, w ≤ 4) ∧ RowOk x.ws x.st x.r
abbrev cParted (C : Addr) : Con := ⟨PR, fun x => [.dat (kD C x.ws), .dat (stD x.st), .dat (thD x.r.1), .dat (thD x.r.2)], PR.ok, fun x d => d = tabD (part x.ws x.st x.r)⟩
theorem ok_parted_rows (T : Txt K mg) : DefOk P w K mg base 7 "parted_rows" (cParted (CK K)) := by
  refine m_parted_rows T (fun _ => rfl) fun f cdv A outer s H E hr B (x : PR) (hx : x.ok) => ?_
  obtain ⟨ws, st, r1, r2⟩ := x
  obtain ⟨h5, h4, ho⟩ : ws.length ≤ 5 ∧ (∀ w ∈ ws, w ≤ 4) ∧ RowOk ws st (r1, r2) := hx
  show Exs _ B _ [.dat (kD (CK K) ws), .dat (stD st), .dat (thD r1), .dat (thD r2), .unb, .unb, .unb, .unb] ⟨fun _ => _, fun d => d = tabD (part ws st (r1, r2)), fun _ => False, fun _ => False⟩
  have s1 : r1.f.code.length ≤ 900 := ho.sz1
  have s2 : r2.f.code.length ≤ 900 := ho.sz2
  refine exs_cons (ex_set 4 sc_parted_rows.nd (ev_call (ok_hole_opened T) (hr.mono (by decide)) (ea_cons (ev_var 0 rfl (ea_cons (ev_var 1 rfl (ea_cons (ev_var 3 rfl (ea_nil ⟨⟨ws, st, r2⟩, rfl, ⟨ho.wf2, by show r2.f.code.length ≤ 1000; omega, ho.slot⟩, ?_⟩)))))))))
  rintro d rfl
  show Exs _ B _ [.dat (kD (CK K) ws), .dat (stD st), .dat (thD r1), .dat (thD r2), .dat (optD (hop st r2)), .unb, .unb, .unb] ⟨fun _ => _, fun d => d = tabD (part ws st (r1, r2)), fun _ => False, fun _ => False⟩
  unfold part
  cases e : hop st r2 with
  | none =>
    refine exs_cons (ex_if (et_cmp (by decide +kernel) (ev_var 4 rfl (ev_non (bo_isN (is_t ?_))))))
    exact exs_cons (ex_ret (ev_lst (ea_cons (ev_tup (ea_cons (ev_var 2 rfl (ea_cons (ev_var 3 rfl (ea_nil (dats2 ⟨by show 2 ≤ sizeLine; decide, ea_nil (dats1 ⟨by show 1 ≤ sizeLine; decide, rfl⟩)⟩))))))))))
  | some k =>
    have hk : k < r2.f.holes := by
      cases st with
      | op p sl =>
        rw [hop_op] at e
        split at e
        · exact Fo.holeAt_lt e
        · cases e
      | cl p sl => cases e
      | ord ps => cases e
    have hk1 : k < r1.f.holes := by have : r1.f.holes = r2.f.holes := ho.hol; omega
    refine exs_cons (ex_if (et_cmp (by decide +kernel) (ev_var 4 rfl (ev_non (bo_isN (is_f (exs_nil ?_)))))))
    refine exs_cons (ex_own 5 sc_parted_rows.nd (ea_nil (dats0 ⟨by decide, ?_⟩)))
    refine exs_cons (ex_for PassesOwn.never rfl (ei_rg1 T.f_range (ev_lenK (ok_Kind_len T) (hr.mono (by decide)) T.f_len (ev_var 0 rfl ⟨ws, rfl, by omega, _, rfl, by omega, by omega, ?_⟩))))
    refine ⟨fun i δ' => ∃ a b : Ent, δ' = [.dat (kD (CK K) ws), .dat (stD st), .dat (thD r1), .dat (thD r2), .dat (nc k), .own .l (((List.range i).map fun m => (gr ws k m r1, gr ws k m r2)).map pairD), a, b], ⟨_, _, rfl⟩, ?_, ?_⟩
    · rintro i d δ' hd ⟨a, b, rfl⟩
      have hil : i < ws.length := by
        have := (List.getElem?_eq_some_iff.mp hd).1
        rw [List.length_map, List.length_range] at this
        omega
      rw [List.getElem?_map] at hd
      obtain ⟨y, hy, rfl⟩ := Option.map_eq_some_iff.mp hd
      obtain ⟨_, rfl⟩ := List.getElem?_eq_some_iff.mp hy
      rw [List.getElem_range, Int.zero_add]
      have hw4 : ws.getD i 0 ≤ 4 := h4 _ (List.mem_of_getElem? (Mv.grD hil))
      refine eg_name 6 sc_parted_rows.nd ?_
      refine exs_cons (ex_set 7 sc_parted_rows.nd (ev_bin (ev_tup (ea_cons (ev_var 6 rfl (ea_nil (dats1 ⟨by show 1 ≤ sizeLine; decide, ?_⟩)))))))
      refine ev_bin (ev_tup (ea_cons (ev_gint T.i_HOLE (ea_nil (dats1 ⟨by show 1 ≤ sizeLine; decide, ?_⟩)))))
      refine ev_meth (ok_Kind_within T) (hr.mono (by decide)) (by decide) (ev_var 0 rfl ⟨_, rfl, ea_cons (ev_var 6 rfl (ea_nil ⟨(ws, i), rfl, hil, ?_⟩))⟩)
      rintro d rfl
      refine bo_mulT (by omega) (by show ((ws.getD i 0 : Nat) : Int) ≤ 1000; omega) (bo_addT (by rw [List.length_replicate]; exact sz (by show 1 + ((ws.getD i 0 : Nat) : Int).toNat ≤ _; omega)) ?_)
      have em : D.tup ([nc i] ++ List.replicate ((ws.getD i 0 : Nat) : Int).toNat (D.int (-1))) = D.tup ((moreD ws i).map D.int) := by
        rw [Int.toNat_natCast, List.map_cons, List.map_replicate]
        rfl
      show Exs _ B _ [.dat (kD (CK K) ws), .dat (stD st), .dat (thD r1), .dat (thD r2), .dat (nc k), .own .l (((List.range i).map fun m => (gr ws k m r1, gr ws k m r2)).map pairD), .dat (nc i), .dat (D.tup ([nc i] ++ List.replicate ((ws.getD i 0 : Nat) : Int).toNat (D.int (-1))))] _
      rw [em]
      refine exs_cons (ex_append 5 rfl (by rw [List.length_map, List.length_map, List.length_range]; exact szl (by omega)) (ev_tup ?_))
      refine ea_cons (ev_call (ok_grown_at T) (hr.mono (by decide)) (ea_cons (ev_var 2 rfl (ea_cons (ev_var 4 rfl (ea_cons (ev_var 7 rfl (ea_nil ⟨⟨ws, r1, k, i⟩, rfl, ⟨hk1, by show r1.f.code.length ≤ 1000; omega, hw4⟩, ?_⟩))))))))
      rintro d rfl
      refine ea_cons (ev_call (ok_grown_at T) (hr.mono (by decide)) (ea_cons (ev_var 3 rfl (ea_cons (ev_var 4 rfl (ea_cons (ev_var 7 rfl (ea_nil ⟨⟨ws, r2, k, i⟩, rfl, ⟨hk, by show r2.f.code.length ≤ 1000; omega, hw4⟩, ?_⟩))))))))
      rintro d rfl
      refine ea_nil (dats2 ⟨by show 2 ≤ sizeLine; decide, exs_nil ⟨.dat (nc i), .dat (D.tup ((moreD ws i).map D.int)), ?_⟩⟩)
      rw [List.range_succ, List.map_append, List.map_append]
      rfl
    · rintro δ' ⟨a, b, rfl⟩
      refine exs_freeze 5 rfl rfl (exs_cons (ex_ret (ev_var 5 rfl ?_)))
      show D.lst (((List.range (rgD 0 ((ws.length : Nat) : Int)).length).map fun m => (gr ws k m r1, gr ws k m r2)).map pairD) = tabD ((List.range ws.length).map fun m => (gr ws k m r1, gr ws k m r2))
      rw [List.length_map, List.length_range, show (((ws.length : Nat) : Int) - 0).toNat = ws.length by omega]
end
end BA

set_option maxHeartbeats 4000000
namespace BA
open PySem PySem.Spec PyProof.Rows L2
section
variable {P : Program} {w : World} {K : PySem.W.Frag} {mg : Str → Option Value} {base : Heap}
structure RB3 where
  ws : List Nat
  st : Stp
  rows : List (Th × Th)
abbrev K5 (ws : List Nat) : Prop := 0 < ws.length ∧ ws.length ≤ 5 ∧ ∀ w ∈ ws, w ≤ 4
abbrev RB3.ok (x : RB3) : Prop := K5 x.ws ∧ (∀ r ∈ x.rows, RowOk x.ws x.st r) ∧ (behind x.ws x.st x.rows).length ≤ 400
noncomputable abbrev cBehind (C : Addr) : Con := ⟨RB3, fun x => [.dat (kD C x.ws), .dat (stD x.st), .dat (tabD x.rows)], RB3.ok, fun x d => d = tabD (behind x.ws x.st x.rows)⟩
theorem part_sz {ws : List Nat} {st : Stp} {r q : Th × Th} (h4 : ∀ w ∈ ws, w ≤ 4) (ho : RowOk ws st r) (h : q ∈ part ws st r) : q.2.f.wf ws ∧ q.2.f.code.length ≤ 1000 := by
  have s2 := ho.sz2
  unfold part at h
  cases e : hop st r.2 with
  | none =>
    rw [e] at h
    rw [List.mem_singleton.mp h]
    exact ⟨ho.wf2, by omega⟩
  | some k =>
    rw [e] at h
    obtain ⟨m, hm, rfl⟩ := List.mem_map.mp h
    have hw := Mv.grD (ws := ws) (List.mem_range.mp hm)
    have s3 := h4 _ (List.mem_of_getElem? hw)
    have s4 := grow_sz (m := m) (w := ws.getD m 0) (k := k) r.2.f
    exact ⟨Fo.grow_wf hw ho.wf2, by show (r.2.f.grow k m (ws.getD m 0)).code.length ≤ 1000; omega⟩
theorem ok_rows_behind (T : Txt K mg) : DefOk P w K mg base 8 "rows_behind" (cBehind (CK K)) := by
  refine m_rows_behind T (fun _ => rfl) fun f cdv A outer s H E hr B (x : RB3) (hx : x.ok) => ?_
  obtain ⟨ws, st, rows⟩ := x
  obtain ⟨⟨h0, h5, h4⟩, ho, hl⟩ : K5 ws ∧ (∀ r ∈ rows, RowOk ws st r) ∧ (behind ws st rows).length ≤ 400 := hx
  show Exs _ B _ [.dat (kD (CK K) ws), .dat (stD st), .dat (tabD rows), .unb, .unb, .unb, .unb, .unb] ⟨fun _ => _, fun d => d = tabD (behind ws st rows), fun _ => False, fun _ => False⟩
  have hcut : ∀ i, ((rows.take i).flatMap (behind1 ws st)).length ≤ 400 := fun i => by
    have e : behind ws st rows = (rows.take i).flatMap (behind1 ws st) ++ (rows.drop i).flatMap (behind1 ws st) := by
      unfold behind
      rw [← List.flatMap_append, List.take_append_drop]
    have := congrArg List.length e
    rw [List.length_append] at this
    omega
  refine exs_cons (ex_own 3 sc_rows_behind.nd (ea_nil (dats0 ⟨by decide, ?_⟩)))
  refine exs_cons (ex_for PassesOwn.never rfl (ei_list (ev_var 2 rfl ⟨_, rfl, ?_⟩)))
  refine ⟨fun i δ' => ∃ a b c d : Ent, δ' = [.dat (kD (CK K) ws), .dat (stD st), .dat (tabD rows), .own .l (((rows.take i).flatMap (behind1 ws st)).map pairD), a, b, c, d], ⟨_, _, _, _, rfl⟩, ?_, ?_⟩
  · rintro i d δ' hd ⟨a, b, c, d, rfl⟩
    rw [List.getElem?_map] at hd
    obtain ⟨r, hr1, rfl⟩ := Option.map_eq_some_iff.mp hd
    have hrm := List.mem_of_getElem? hr1
    have hro := ho r hrm
    have ec : (rows.take (i + 1)).flatMap (behind1 ws st) = (rows.take i).flatMap (behind1 ws st) ++ behind1 ws st r := by
      rw [List.take_add_one, hr1, List.flatMap_append]
      show _ ++ (behind1 ws st r ++ []) = _
      rw [List.append_nil]
    have hc1 := hcut (i + 1)
    rw [ec, List.length_append] at hc1
    refine eg_tup rfl (egs_cons (eg_name 4 sc_rows_behind.nd (egs_cons (eg_name 5 sc_rows_behind.nd (egs_nil ?_)))))
    refine exs_cons (ex_for PassesOwn.never rfl (ei_list (ev_call (ok_parted_rows T) (hr.mono (by decide)) (ea_cons (ev_var 0 rfl (ea_cons (ev_var 1 rfl (ea_cons (ev_var 4 rfl (ea_cons (ev_var 5 rfl (ea_nil ⟨⟨ws, st, r⟩, rfl, ⟨h5, h4, hro⟩, ?_⟩))))))))))))
    rintro d' rfl
    refine ⟨_, rfl, ?_⟩
    refine ⟨fun j δ' => ∃ c d : Ent, δ' = [.dat (kD (CK K) ws), .dat (stD st), .dat (tabD rows), .own .l (((rows.take i).flatMap (behind1 ws st) ++ ((part ws st r).take j).map fun q => (q.1, mvC ws st q.2)).map pairD), .dat (thD r.1), .dat (thD r.2), c, d], ⟨_, _, by rw [List.take_zero, List.map_nil, List.append_nil]; rfl⟩, ?_, ?_⟩
    · rintro j d δ' hd ⟨c, d, rfl⟩
      rw [List.getElem?_map] at hd
      obtain ⟨q, hq, rfl⟩ := Option.map_eq_some_iff.mp hd
      have hqm := List.mem_of_getElem? hq
      have hjl := (List.getElem?_eq_some_iff.mp hq).1
      have hbl : (behind1 ws st r).length = (part ws st r).length := List.length_map _
      obtain ⟨z1, z2⟩ := part_sz h4 hro hqm
      have hm := mvC_ok (hro.ex q hqm)
      refine eg_tup rfl (egs_cons (eg_name 6 sc_rows_behind.nd (egs_cons (eg_name 7 sc_rows_behind.nd (egs_nil ?_)))))
      refine exs_cons (ex_append 3 rfl (by rw [List.length_map, List.length_append, List.length_map, List.length_take]; exact szl (by omega)) (ev_tup (ea_cons (ev_var 6 rfl ?_))))
      refine ea_cons (ev_call (ok_moved T) (hr.mono (by decide)) (ea_cons (ev_var 0 rfl (ea_cons (ev_var 1 rfl (ea_cons (ev_var 7 rfl (ea_nil ⟨⟨ws, st, q.2, mvC ws st q.2⟩, rfl, ⟨h0, by show ws.length < 100; omega, z1, z2, hm⟩, ?_⟩))))))))
      rintro d rfl
      refine ea_nil (dats2 ⟨by show 2 ≤ sizeLine; decide, exs_nil ⟨.dat (thD q.1), .dat (thD q.2), ?_⟩⟩)
      have e8 : List.map pairD ((rows.take i).flatMap (behind1 ws st) ++ ((part ws st r).take (j + 1)).map fun q => (q.1, mvC ws st q.2)) = List.map pairD ((rows.take i).flatMap (behind1 ws st) ++ ((part ws st r).take j).map fun q => (q.1, mvC ws st q.2)) ++ [pairD (q.1, mvC ws st q.2)] := by
        simp only [List.take_add_one, hq, List.map_append, List.append_assoc]
        rfl
      rw [e8]
      rfl
    · rintro δ' ⟨c, d, rfl⟩
      rw [List.length_map, List.take_length]
      have e9 : (rows.take i).flatMap (behind1 ws st) ++ (part ws st r).map (fun q => (q.1, mvC ws st q.2)) = (rows.take (i + 1)).flatMap (behind1 ws st) := by rw [ec]; rfl
      rw [e9]
      refine exs_cons (ex_expr (ev_thaw 3 rfl rfl (ev_call (ok_asked_rows T) (hr.mono (by decide)) (ea_cons (ev_var 3 rfl (ea_nil ⟨_, rfl, by show (List.map pairD _).length ≤ 400; rw [List.length_map]; exact hcut (i + 1), ?_⟩))))))
      rintro d' rfl
      exact ⟨rfl, exs_nil ⟨_, _, _, _, rfl⟩⟩
  · rintro δ' ⟨a, b, c, d, rfl⟩
    refine exs_freeze 3 rfl rfl (exs_cons (ex_ret (ev_var 3 rfl ?_)))
    show D.lst (((rows.take (rows.map pairD).length).flatMap (behind1 ws st)).map pairD) = tabD (behind ws st rows)
    rw [List.length_map, List.take_length]
    rfl
structure TB where
  v : TV
  out : List (Th × Th)
abbrev TB.ok (x : TB) : Prop := K5 x.v.u.ws ∧ RkOk x.v.u.r ∧ Tab x.v.u.ws (rows0 x.v.u.r) x.v.u.sts x.out
abbrev cTable (K : PySem.W.Frag) : Con := ⟨TB, fun x => [.dat (tD K x.v.u.ws x.v.u.r x.v.u.sts x.v.u.r' x.v.xs)], TB.ok, fun x d => d = tabD x.out⟩
theorem ok_table_of (T : Txt K mg) : DefOk P w K mg base 9 "table_of" (cTable K) := by
  refine m_table_of T (fun _ => rfl) fun f cdv A outer s H E hr B (x : TB) (hx : x.ok) => ?_
  obtain ⟨⟨⟨ws, r, sts, r'⟩, xs⟩, out⟩ := x
  obtain ⟨hk, hrk, ht⟩ : K5 ws ∧ RkOk r ∧ Tab ws (rows0 r) sts out := hx
  show Exs _ B _ [.dat (tD K ws r sts r' xs), .unb, .unb, .unb, .unb, .unb] ⟨fun _ => _, fun d => d = tabD out, fun _ => False, fun _ => False⟩
  have hl := hrk.1
  refine exs_cons (ex_own 1 sc_table_of.nd (ea_nil (dats0 ⟨by decide, ?_⟩)))
  refine exs_cons (ex_for PassesOwn.never rfl (ei_enumT T.f_enumerate (ev_fld T.cTurning T.na_begin (ev_var 0 rfl ⟨_, _, _, rfl, rfl, _, rfl, ?_⟩))))
  refine ⟨fun i δ' => ∃ a b c d : Ent, δ' = [.dat (tD K ws r sts r' xs), .own .l ((rows0 (r.take i)).map pairD), a, b, c, d], ⟨_, _, _, _, rfl⟩, ?_, ?_⟩
  · rintro i d δ' hd ⟨a, b, c, d, rfl⟩
    obtain ⟨x, hy, rfl⟩ := enumD_at hd
    rw [List.getElem?_map, List.getElem?_map] at hy
    obtain ⟨_, k1, rfl⟩ := Option.map_eq_some_iff.mp hy
    obtain ⟨y, k2, rfl⟩ := Option.map_eq_some_iff.mp k1
    have hil := (List.getElem?_eq_some_iff.mp k2).1
    have hy2 := hrk.2 y (List.mem_of_getElem? k2)
    refine eg_tpw rfl (egs_cons (eg_name 2 sc_table_of.nd (egs_cons (eg_name 3 sc_table_of.nd (egs_nil ?_)))))
    refine exs_cons (ex_set 4 sc_table_of.nd (ev_tup (ea_cons (ev_var 2 rfl (ea_cons (ev_bin (ev_tup (ea_cons (ev_gint T.i_HOLE (ea_nil (dats1 ⟨by show 1 ≤ sizeLine; decide, ev_var 3 rfl (bo_mulT (by omega) (by omega) (ea_nil (dats2 ⟨by show 2 ≤ sizeLine; decide, ?_⟩)))⟩)))))))))))
    have ep : D.tup [D.int ((i : Nat) : Int), D.tup (List.replicate ((y : Nat) : Int).toNat (D.int (-1)))] = thD ⟨i, Fo.allHoles y⟩ := by
      show _ = D.tup [D.int ((i : Nat) : Int), D.tup ((Fo.allHoles y).code.map D.int)]
      rw [Fo.code_allHoles, List.map_replicate, Int.toNat_natCast]
    show Exs _ B _ [.dat (tD K ws r sts r' xs), .own .l ((rows0 (r.take i)).map pairD), .dat (nc i), .dat (nc y), .dat (D.tup [D.int ((i : Nat) : Int), D.tup (List.replicate ((y : Nat) : Int).toNat (D.int (-1)))]), d] _
    rw [ep]
    refine exs_cons (ex_append 1 rfl (by rw [List.length_map, rows0_length, List.length_take]; exact szl (by omega)) (ev_tup (ea_cons (ev_var 4 rfl (ea_cons (ev_var 4 rfl (ea_nil (dats2 ⟨by show 2 ≤ sizeLine; decide, exs_nil ⟨.dat (nc i), .dat (nc y), .dat (thD ⟨i, Fo.allHoles y⟩), d, ?_⟩⟩))))))))
    have e0 : rows0 (r.take (i + 1)) = rows0 (r.take i) ++ [(⟨i, Fo.allHoles y⟩, ⟨i, Fo.allHoles y⟩)] := by
      unfold rows0
      rw [List.take_add_one, k2, List.zipIdx_append, List.map_append, List.length_take, Nat.min_eq_left (Nat.le_of_lt hil), Nat.zero_add]
      rfl
    rw [e0, List.map_append]
    rfl
  · rintro δ' ⟨a, b, c, d, rfl⟩
    rw [enumD_length, nsI_len, List.take_length]
    refine exs_freeze 1 rfl rfl ?_
    refine exs_cons (ex_expr (ev_call (ok_asked_rows T) (hr.mono (by decide)) (ea_cons (ev_var 1 rfl (ea_nil ⟨_, rfl, by show (List.map pairD _).length ≤ 400; rw [List.length_map, rows0_length]; exact hl, fun d _ => ?_⟩)))))
    refine exs_cons (ex_for PassesOwn.never rfl (ei_list (ev_meth0 (ok_Turning_steps T) (hr.mono (by decide)) (by decide) (ev_var 0 rfl ⟨_, rfl, ⟨⟨ws, r, sts, r'⟩, xs⟩, rfl, trivial, ?_⟩))))
    rintro d' rfl
    refine ⟨_, rfl, ?_⟩
    refine ⟨fun i δ' => ∃ (rs : List (Th × Th)) (a b c d : Ent), δ' = [.dat (tD K ws r sts r' xs), .dat (tabD rs), a, b, c, d] ∧ Tab ws rs (sts.drop i) out, ⟨rows0 r, _, _, _, _, rfl, ht⟩, ?_, ?_⟩
    · rintro i d δ' hd ⟨rs, a, b, c, d, rfl, k3⟩
      rw [List.getElem?_map] at hd
      obtain ⟨st, hst, rfl⟩ := Option.map_eq_some_iff.mp hd
      rw [drop_at hst] at k3
      cases k3 with
      | cons z1 z2 z3 =>
        refine eg_name 5 sc_table_of.nd ?_
        refine exs_cons (ex_set 1 sc_table_of.nd (ev_call (ok_rows_behind T) (hr.mono (by decide)) (ea_cons (ev_fld T.cTurning T.na_kind (ev_var 0 rfl ⟨_, _, _, rfl, rfl, ?_⟩)))))
        refine ea_cons (ev_var 5 rfl (ea_cons (ev_var 1 rfl (ea_nil ⟨⟨ws, st, rs⟩, rfl, ⟨hk, z1, z2⟩, ?_⟩))))
        rintro d' rfl
        exact exs_nil ⟨behind ws st rs, _, _, _, _, rfl, z3⟩
    · rintro δ' ⟨rs, a, b, c, d, rfl, k3⟩
      rw [List.length_map, List.drop_length] at k3
      have e : rs = out := by cases k3; rfl
      subst e
      exact exs_cons (ex_ret (ev_var 1 rfl rfl))
structure PT3 where
  ws : List Nat
  r : List Nat
  A : List Stp
  B : List Stp
  r' : List Nat
  xs : List D
  ys : List D
abbrev PT3.ok (x : PT3) : Prop := K5 x.ws ∧ RkOk x.r ∧ (∀ y ∈ x.r, y ≤ 10) ∧ x.A.length ≤ 100 ∧ x.B.length ≤ 100 ∧ Pair x.ws x.r x.A x.B x.r'
abbrev cParting (K : PySem.W.Frag) : Con := ⟨PT3, fun x => [.dat (tD K x.ws x.r x.A x.r' x.xs), .dat (tD K x.ws x.r x.B x.r' x.ys)], PT3.ok, fun x d => d = .lst []⟩
theorem ok_parting_rows (T : Txt K mg) : DefOk P w K mg base 13 "parting_rows" (cParting K) := by
  refine m_parting_rows T (fun _ => rfl) fun f cdv A outer s H E hr B (x : PT3) (hx : x.ok) => ?_
  obtain ⟨ws, r, SA, SB, r', xs, ys⟩ := x
  obtain ⟨hk, hrk, h10, hA, hB, hp⟩ : K5 ws ∧ RkOk r ∧ (∀ y ∈ r, y ≤ 10) ∧ SA.length ≤ 100 ∧ SB.length ≤ 100 ∧ Pair ws r SA SB r' := hx
  show Exs _ B _ [.dat (tD K ws r SA r' xs), .dat (tD K ws r SB r' ys), .unb, .unb] ⟨fun _ => _, fun d => d = .lst [], fun _ => False, fun _ => False⟩
  have hub := hp.rb.und hrk
  obtain ⟨out, ht, ho⟩ := hp.tab hk.1 hk.2.2 hA hrk h10
  refine exs_cons (ex_if (et_w (ew_or (et_cmp (by decide +kernel) (ev_fld T.cTurning T.na_kind (ev_var 0 rfl ⟨_, _, _, rfl, rfl, ev_fld T.cTurning T.na_kind (ev_var 1 rfl ⟨_, _, _, rfl, rfl, ?_⟩)⟩))))))
  refine bo_neK T (ok_Kind_eq T) (hr.mono (by decide)) (is_f (ew_or (et_cmp (by decide +kernel) (ev_fld T.cTurning T.na_begin (ev_var 0 rfl ⟨_, _, _, rfl, rfl, ev_fld T.cTurning T.na_begin (ev_var 1 rfl ⟨_, _, _, rfl, rfl, bo_differ (nd_pl _) hr (is_f ?_)⟩)⟩)))))
  refine ew_or1 (et_cmp (by decide +kernel) (ev_fld T.cTurning T.na_end (ev_var 0 rfl ⟨_, _, _, rfl, rfl, ev_fld T.cTurning T.na_end (ev_var 1 rfl ⟨_, _, _, rfl, rfl, bo_differ (nd_pl _) hr (is_f (exs_nil ?_))⟩)⟩)))
  refine exs_cons (ex_ret (ev_lcG (own := [("first", 2), ("second", 3)]) rfl sc_parting_rows.nd (blkOk_by (by show blkC N_parting_rows (defScope s_parting_rows) _ _ = true; decide +kernel)) (takes_pair 2 3 (by decide) rfl sc_parting_rows.nd rfl rfl (by intro _ _ _ _ _; exact .inl rfl) (by intro _ _ _ _ _; exact .inl rfl) (by intro _ _ _ _ _; exact .inr rfl) (by intro _ _ _ _ _; exact .inr rfl)) ?_))
  refine ei_list (ev_call (ok_table_of T) (hr.mono (by decide)) (ea_cons (ev_call (ok_join T) (hr.mono (by decide)) (ea_cons (ev_var 0 rfl ?_)))))
  refine ea_cons (ev_meth0 (ok_Turning_turned T) (hr.mono (by decide)) (by decide) (ev_var 1 rfl ⟨_, rfl, ⟨⟨ws, r, SB, r'⟩, ys⟩, rfl, ⟨⟨hk.1, by show ws.length < 100; have := hk.2.1; omega, hrk, by show SB.length ≤ 1000; omega, hp.rb⟩, hp.plB⟩, ?_⟩))
  rintro d ⟨zs, rfl⟩
  refine ea_nil ⟨⟨⟨ws, r, SA, r'⟩, xs, ⟨ws, r', SB.reverse.map und, r⟩, zs⟩, rfl, ⟨⟨hk.1, by show ws.length < 100; have := hk.2.1; omega, hrk, by show SA.length ≤ 1000; omega, hp.ra⟩, ⟨hk.1, by show ws.length < 100; have := hk.2.1; omega, hub.2, ?_, hub.1⟩, rfl, rfl, ?_⟩, ?_⟩
  · show (SB.reverse.map und).length ≤ 1000
    rw [List.length_map, List.length_reverse]; omega
  · show SA.length + (SB.reverse.map und).length ≤ 1000
    rw [List.length_map, List.length_reverse]; omega
  rintro d ⟨us, rfl⟩
  refine ea_nil ⟨⟨⟨⟨ws, r, SA ++ SB.reverse.map und, r⟩, us⟩, out⟩, rfl, ⟨hk, hrk, ht⟩, ?_⟩
  rintro d rfl
  refine ⟨_, rfl, fun d hd => ?_, fun i acc => acc = [], rfl, fun i d acc hd hi => ?_, fun acc hacc => ?_⟩
  · obtain ⟨q, _, rfl⟩ := List.mem_map.mp hd
    rfl
  · rw [List.getElem?_map] at hd
    obtain ⟨q, hq, rfl⟩ := Option.map_eq_some_iff.mp hd
    obtain ⟨q1, q2⟩ := q
    have e : q1 = q2 := ho _ (List.mem_of_getElem? hq)
    subst e
    refine ⟨by rw [hi]; exact szl (by show 0 ≤ _; omega), fun s H0 C cl fp => ets_one (et_cmp (by decide +kernel) (ev_var 2 rfl (ev_var 3 rfl (bo_differ (thD_pl q1) hr (is_f hi)))))⟩
  · show D.lst acc = D.lst []
    rw [hacc]
abbrev cSame (K : PySem.W.Frag) : Con := ⟨PT3, fun x => [.dat (tD K x.ws x.r x.A x.r' x.xs), .dat (tD K x.ws x.r x.B x.r' x.ys)], PT3.ok, fun x d => d = .bl true⟩
theorem ok_are_same (T : Txt K mg) : DefOk P w K mg base 14 "are_same" (cSame K) := by
  refine m_are_same T (fun _ => rfl) fun f cdv A outer s H E hr B (x : PT3) (hx : x.ok) => ?_
  refine exs_cons (ex_ret (ev_cmp (by decide +kernel) (ev_call (ok_parting_rows T) (hr.mono (by decide)) (ea_cons (ev_var 0 rfl (ea_cons (ev_var 1 rfl (ea_nil ⟨x, rfl, hx, ?_⟩))))))))
  rintro d rfl
  exact ev_lst (ea_nil (dats0 ⟨by decide, bo_same (by rfl) hr rfl⟩))
end
end BA

set_option maxHeartbeats 4000000
namespace BA
open PySem PySem.Spec PyProof.Rows L2
theorem nd_at {ms : List Nat} {i : Nat} {d : D} (h : (nd ms)[i]? = some d) : ∃ y, ms[i]? = some y ∧ d = nc y ∧ i < ms.length := by
  rw [List.getElem?_map, List.getElem?_map] at h
  obtain ⟨_, k1, rfl⟩ := Option.map_eq_some_iff.mp h
  obtain ⟨y, k2, rfl⟩ := Option.map_eq_some_iff.mp k1
  exact ⟨y, k2, rfl, (List.getElem?_eq_some_iff.mp k2).1⟩
theorem rg_at {n i : Nat} {d : D} (h : (rgD 0 ((n : Nat) : Int))[i]? = some d) : d = nc i ∧ i < n := by
  rw [List.getElem?_map] at h
  obtain ⟨y, hy, rfl⟩ := Option.map_eq_some_iff.mp h
  obtain ⟨hl, rfl⟩ := List.getElem?_eq_some_iff.mp hy
  rw [List.length_range] at hl
  rw [List.getElem_range, Int.zero_add]
  exact ⟨rfl, by omega⟩
theorem rg_len (n : Nat) : (rgD 0 ((n : Nat) : Int)).length = n := by rw [List.length_map, List.length_range]; omega
/-- a cut between a statement and what follows -/
theorem exs_mid {X : Cx} {B : Base} {st : Stmt} {sts : List Stmt} {δ : List Ent} {p : Post} (N : List Ent → Prop) (h1 : Ex X B st δ { p with n := N }) (h2 : ∀ δ', N δ' → Exs X B sts δ' p) : Exs X B (st :: sts) δ p :=
  exs_cons fun S H σ ok E m => h1 S H σ ok E ⟨fun S' H' σ' δ' x ok' n => m.n S' H' σ' δ' x ok' (h2 δ' n), m.r, m.b, m.c⟩
section
variable {P : Program} {w : World} {K : PySem.W.Frag} {mg : Str → Option Value} {base : Heap}
abbrev cWithinL : Con := ⟨Unit, fun _ => [.well], fun _ => True, fun _ d => ∃ ws, WsOk ws ∧ d = .lst (nd ws)⟩
theorem ok__law_within (T : Txt K mg) : DefOk P w K mg base 2 "_law_within" cWithinL := by
  refine m__law_within T (fun _ => rfl) fun f cdv A outer s H E hr B x _ => ?_
  refine exs_cons (ex_own 1 sc__law_within.nd (ea_cons (ev_int (ea_nil (dats1 ⟨by decide, ?_⟩)))))
  refine exs_cons (ex_for PassesOwn.never rfl (ei_list (ev_bin (ev_lst (ea_cons (ev_bin (ev_int ?_)))))))
  refine ev_call (ok__law_draw T) (hr.mono (by decide)) (ea_well 0 rfl (ea_cons (ev_int (ea_nil ⟨3, rfl, ⟨by decide, by decide⟩, ?_⟩))))
  rintro d ⟨z, rfl, z0, z1⟩
  obtain ⟨a, rfl⟩ := Int.eq_ofNat_of_zero_le z0
  refine bo_add (ea_nil (dats1 ⟨by show 1 ≤ sizeLine; decide, ?_⟩))
  refine ev_lcG (own := [("_law_k", 3)]) rfl sc__law_within.nd (blkOk_by (by show blkC N__law_within (defScope s__law_within) _ _ = true; decide +kernel)) (takes_name 3 sc__law_within.nd rfl (by intro _ _ _ _ _; exact .inl rfl) (by intro _ _ _ _ _; exact .inr rfl)) (ei_rg1 T.f_range ?_)
  refine ev_call (ok__law_draw T) (hr.mono (by decide)) (ea_well 0 rfl (ea_cons (ev_int (ea_nil ⟨4, rfl, ⟨by decide, by decide⟩, ?_⟩))))
  rintro d ⟨z, rfl, y0, y1⟩
  obtain ⟨n, rfl⟩ := Int.eq_ofNat_of_zero_le y0
  refine ⟨_, rfl, by omega, by omega, fun _ _ => trivial, fun i acc => ∃ ms : List Nat, acc = nd ms ∧ ms.length = i ∧ ∀ x ∈ ms, x ≤ 4, ⟨[], rfl, rfl, fun _ h => by cases h⟩, fun i d acc hd hi => ?_, fun acc hacc => ?_⟩
  · obtain ⟨ms, rfl, k1, k2⟩ := hi
    obtain ⟨_, hil⟩ := rg_at hd
    refine ⟨by rw [nsI_len, k1]; exact szl (by omega), fun s H0 C cl fp => ets_nil (t_t fun s H0 C cl fp => ?_)⟩
    refine ev_call (ok__law_draw T) (hr.mono (by decide)) (ea_well 0 rfl (ea_cons (ev_int (ea_nil ⟨5, rfl, ⟨by decide, by decide⟩, ?_⟩))))
    rintro d ⟨z, rfl, x0, x1⟩
    obtain ⟨c, rfl⟩ := Int.eq_ofNat_of_zero_le x0
    refine ⟨ms ++ [c], by rw [nd_app]; rfl, by rw [List.length_append, k1]; rfl, fun x hx => ?_⟩
    rcases List.mem_append.mp hx with hx | hx
    · exact k2 x hx
    · rw [List.mem_singleton.mp hx]; omega
  · obtain ⟨ms, rfl, k1, k2⟩ := hacc
    rw [rg_len] at k1
    refine bo_addL (by rw [nsI_len]; exact sz (by show 1 + ms.length ≤ _; omega)) ?_
    have e : [D.int (2 + ((a : Nat) : Int))] ++ nd ms = nd ((2 + a) :: ms) := by
      show _ = D.int ((2 + a : Nat) : Int) :: nd ms
      rw [show ((2 + a : Nat) : Int) = 2 + ((a : Nat) : Int) by omega]
      rfl
    rw [e]
    refine ⟨_, rfl, ?_⟩
    refine ⟨fun i δ' => ∃ (ws : List Nat) (b c : Ent), δ' = [.well, .own .l (nd ws), b, c] ∧ ws.length = i + 1 ∧ (∀ x ∈ ws, x ≤ 4) ∧ 0 ∈ ws ∧ (0 < i → ∃ x ∈ ws, 1 < x), ⟨[0], _, _, rfl, rfl, fun x hx => by rw [List.mem_singleton.mp hx]; omega, List.mem_singleton.mpr rfl, fun z => by omega⟩, ?_, ?_⟩
    · rintro i d δ' hd ⟨ws, b, c, rfl, j1, j2, j3, j4⟩
      obtain ⟨y, hy, rfl, hil⟩ := nd_at hd
      have hil : i < ms.length + 1 := hil
      refine eg_name 2 sc__law_within.nd ?_
      refine exs_cons (ex_insert 1 rfl (by rw [nsI_len]; exact szl (by omega)) (ea_cons (ev_call (ok__law_draw T) (hr.mono (by decide)) (ea_well 0 rfl (ea_cons (ev_bin ?_))))))
      refine ev_thaw 1 rfl rfl (ev_callB (id := "len") T.f_len (by decide +kernel) (ea_cons (ev_var 1 rfl (ea_nil (bc_lenL ⟨rfl, ev_int (bo_add (ea_nil ⟨_, rfl, ⟨by omega, by rw [nsI_len]; omega⟩, ?_⟩))⟩)))))
      rintro d ⟨z, rfl, x0, x1⟩
      refine ea_cons (ev_var 2 rfl (ea_nil (dats2 ⟨z, nc y, rfl, x0, by rw [nsI_len] at x1; omega, exs_nil ⟨ws.take z.toNat ++ [y] ++ ws.drop z.toNat, .dat (nc y), c, ?_, ?_, ?_, ?_, fun _ => ?_⟩⟩)))
      · rw [nd_app, nd_app, ← nd_take, ← nd_drop]; rfl
      · rw [List.length_append, List.length_append, List.length_take, List.length_drop]
        show min z.toNat ws.length + 1 + (ws.length - z.toNat) = i + 1 + 1
        omega
      · intro x hx
        have hy4 : y ≤ 4 := by
          cases i with
          | zero => have e : 2 + a = y := Option.some.inj hy; omega
          | succ i => exact k2 y (List.mem_of_getElem? (i := i) hy)
        rcases List.mem_append.mp hx with hx | hx
        · rcases List.mem_append.mp hx with hx | hx
          · exact j2 x (List.mem_of_mem_take hx)
          · rw [List.mem_singleton.mp hx]; exact hy4
        · exact j2 x (List.mem_of_mem_drop hx)
      · have : (0 : Nat) ∈ ws.take z.toNat ++ ws.drop z.toNat := by rw [List.take_append_drop]; exact j3
        rcases List.mem_append.mp this with h | h
        · exact List.mem_append_left _ (List.mem_append_left _ h)
        · exact List.mem_append_right _ h
      · cases i with
        | zero =>
          have e : 2 + a = y := Option.some.inj hy
          exact ⟨y, List.mem_append_left _ (List.mem_append_right _ (List.mem_singleton.mpr rfl)), by omega⟩
        | succ i =>
          obtain ⟨x, hx, hx1⟩ := j4 (Nat.succ_pos i)
          have : x ∈ ws.take z.toNat ++ ws.drop z.toNat := by rw [List.take_append_drop]; exact hx
          refine ⟨x, ?_, hx1⟩
          rcases List.mem_append.mp this with h | h
          · exact List.mem_append_left _ (List.mem_append_left _ h)
          · exact List.mem_append_right _ h
    · rintro δ' ⟨ws, b, c, rfl, j1, j2, j3, j4⟩
      rw [nsI_len] at j1 j4
      have j1 : ws.length = ms.length + 1 + 1 := j1
      exact exs_freeze 1 rfl rfl (exs_cons (ex_ret (ev_var 1 rfl ⟨ws, ⟨by omega, by omega, j2, j3, j4 (Nat.succ_pos _)⟩, rfl⟩)))
abbrev cHouse (C : Addr) : Con := ⟨List Nat, fun ws => [.dat (.lst (nd ws))], WsOk, fun ws d => d = kD C ws⟩
theorem ok__law_house (T : Txt K mg) : DefOk P w K mg base 6 "_law_house" (cHouse (CK K)) := by
  refine m__law_house T (fun _ => rfl) fun f cdv A outer s H E hr B (ws : List Nat) (hx : WsOk ws) => ?_
  have h5 := hx.hi
  refine exs_cons (ex_ret (ev_make (ok_Kind T) (hr.mono (by decide)) (ea_cons (ev_lcG (own := [("_law_k", 1), ("_law_many", 2)]) rfl sc__law_house.nd (blkOk_by (by show blkC N__law_house (defScope s__law_house) _ _ = true; decide +kernel)) (takes_pair 1 2 (by decide) rfl sc__law_house.nd rfl rfl (by intro _ _ _ _ _; exact .inl rfl) (by intro _ _ _ _ _; exact .inl rfl) (by intro _ _ _ _ _; exact .inr rfl) (by intro _ _ _ _ _; exact .inr rfl)) (ei_enumL T.f_enumerate (ev_var 0 rfl ⟨_, rfl, ?_⟩))))))
  refine ⟨fun d hd => ?_, fun i acc => acc = (rowsK ws).take i, rfl, fun i d acc hd hi => ?_, fun acc hacc => ?_⟩
  · obtain ⟨i, hi⟩ := List.getElem?_of_mem hd
    obtain ⟨y, _, rfl⟩ := enumD_at hi
    rfl
  · obtain ⟨x, hy, rfl⟩ := enumD_at hd
    obtain ⟨y, k2, rfl, hil⟩ := nd_at hy
    refine ⟨by rw [hi, List.length_take, rowsK_length]; exact szl (by omega), fun s H0 C cl fp => ets_nil (t_t fun s H0 C cl fp => ?_)⟩
    have e : (rowsK ws).take (i + 1) = (rowsK ws).take i ++ [rowK y i] := by rw [List.take_add_one, rowsK_at k2]; rfl
    rw [hi]
    rcases (by omega : i = 0 ∨ i = 1 ∨ i = 2 ∨ i = 3 ∨ i = 4) with rfl | rfl | rfl | rfl | rfl
    · exact ev_tup (ea_cons (ev_bin (ev_ix (ev_str (ev_var 1 rfl (bix_str (c := 97) (by decide +kernel) (by decide +kernel) (ev_bin (ev_int (ev_bin (ev_var 1 rfl (ev_int (bo_mod (by decide) (bo_add (bo_mulS (w := "a") (by decide) (by decide) (by decide +kernel) (by decide +kernel) (by decide +kernel) (ea_cons (ev_var 2 rfl (ea_nil (dats2 ⟨by show 2 ≤ sizeLine; decide, e.symm⟩))))))))))))))))))
    · exact ev_tup (ea_cons (ev_bin (ev_ix (ev_str (ev_var 1 rfl (bix_str (c := 98) (by decide +kernel) (by decide +kernel) (ev_bin (ev_int (ev_bin (ev_var 1 rfl (ev_int (bo_mod (by decide) (bo_add (bo_mulS (w := "bb") (by decide) (by decide) (by decide +kernel) (by decide +kernel) (by decide +kernel) (ea_cons (ev_var 2 rfl (ea_nil (dats2 ⟨by show 2 ≤ sizeLine; decide, e.symm⟩))))))))))))))))))
    · exact ev_tup (ea_cons (ev_bin (ev_ix (ev_str (ev_var 1 rfl (bix_str (c := 99) (by decide +kernel) (by decide +kernel) (ev_bin (ev_int (ev_bin (ev_var 1 rfl (ev_int (bo_mod (by decide) (bo_add (bo_mulS (w := "ccc") (by decide) (by decide) (by decide +kernel) (by decide +kernel) (by decide +kernel) (ea_cons (ev_var 2 rfl (ea_nil (dats2 ⟨by show 2 ≤ sizeLine; decide, e.symm⟩))))))))))))))))))
    · exact ev_tup (ea_cons (ev_bin (ev_ix (ev_str (ev_var 1 rfl (bix_str (c := 100) (by decide +kernel) (by decide +kernel) (ev_bin (ev_int (ev_bin (ev_var 1 rfl (ev_int (bo_mod (by decide) (bo_add (bo_mulS (w := "d") (by decide) (by decide) (by decide +kernel) (by decide +kernel) (by decide +kernel) (ea_cons (ev_var 2 rfl (ea_nil (dats2 ⟨by show 2 ≤ sizeLine; decide, e.symm⟩))))))))))))))))))
    · exact ev_tup (ea_cons (ev_bin (ev_ix (ev_str (ev_var 1 rfl (bix_str (c := 101) (by decide +kernel) (by decide +kernel) (ev_bin (ev_int (ev_bin (ev_var 1 rfl (ev_int (bo_mod (by decide) (bo_add (bo_mulS (w := "ee") (by decide) (by decide) (by decide +kernel) (by decide +kernel) (by decide +kernel) (ea_cons (ev_var 2 rfl (ea_nil (dats2 ⟨by show 2 ≤ sizeLine; decide, e.symm⟩))))))))))))))))))
  · rw [enumD_length, nsI_len, List.take_of_length_le (by rw [rowsK_length]; exact Nat.le_refl _)] at hacc
    subst hacc
    exact ea_nil ⟨ws, rfl, hx, fun d h => h⟩
/-! a row of trees -/
theorem split_len {ws : List Nat} : ∀ {a b : Nat} {g : Fo}, g.len = a + b → g.full → g.wf ws → ∃ cs r, g = Fo.app cs r ∧ cs.len = a ∧ r.len = b ∧ cs.full ∧ cs.wf ws ∧ r.full ∧ r.wf ws
  | 0, b, g, h, hf, hw => ⟨.nil, g, rfl, rfl, by rw [h]; omega, trivial, trivial, hf, hw⟩
  | a + 1, b, .nil, h, _, _ => by have : 0 = a + 1 + b := h; omega
  | a + 1, b, .hole r, _, hf, _ => hf.elim
  | a + 1, b, .node m c r, h, hf, hw => by
    have h : r.len + 1 = a + 1 + b := h
    obtain ⟨cs, r', e, h1, h2, h3, h4, h5, h6⟩ := split_len (ws := ws) (a := a) (b := b) (g := r) (by omega) hf.2 hw.2.2
    exact ⟨.node m c cs, r', by rw [e]; rfl, by show cs.len + 1 = a + 1; omega, h2, ⟨hf.1, h3⟩, ⟨hw.1, hw.2.1, h4⟩, h5, h6⟩
structure RW3 where
  ws : List Nat
  many : Nat
abbrev RW3.ok (x : RW3) : Prop := WsOk x.ws ∧ x.many ≤ 20
/-- what is still wanted of a row -/
def Open (ws : List Nat) (many : Nat) (L : List Nat) (wanted : Nat) : Prop := ∀ g : Fo, g.full → g.wf ws → g.len = wanted → ∃ f : Fo, f.full ∧ f.wf ws ∧ f.len = many ∧ f.code = nsI L ++ g.code
abbrev cRow3 : Con := ⟨RW3, fun x => [.well, .dat (.lst (nd x.ws)), .dat (nc x.many)], RW3.ok, fun x d => ∃ f : Fo, d = rowD f ∧ f.full ∧ f.wf x.ws ∧ f.len = x.many ∧ f.code.length ≤ 500⟩
theorem ok__law_row (T : Txt K mg) : DefOk P w K mg base 2 "_law_row" cRow3 := by
  refine m__law_row T (fun _ => rfl) fun f cdv A outer s H E hr B (x : RW3) (hx : x.ok) => ?_
  obtain ⟨ws, many⟩ := x
  obtain ⟨hw, hm⟩ : WsOk ws ∧ many ≤ 20 := hx
  have h2 := hw.lo
  have h5 := hw.hi
  show Exs _ B _ [.well, .dat (.lst (nd ws)), .dat (nc many), .unb, .unb, .unb] ⟨fun _ => _, fun d => ∃ f : Fo, d = rowD f ∧ f.full ∧ f.wf ws ∧ f.len = many ∧ f.code.length ≤ 500, fun _ => False, fun _ => False⟩
  refine exs_cons (ex_own 3 sc__law_row.nd (ea_nil (dats0 ⟨by decide, ?_⟩)))
  refine exs_cons (ex_set 4 sc__law_row.nd (ev_var 2 rfl ?_))
  refine exs_cons (ex_while (fun n δ' => ∃ (L : List Nat) (wanted : Nat) (b : Ent), δ' = [.well, .dat (.lst (nd ws)), .dat (nc many), .own .l (nd L), .dat (nc wanted), b] ∧ Open ws many L wanted ∧ n = wanted + 4 * (many + 7 - L.length) ∧ L.length + n ≤ 5 * many + 28) (many + 4 * (many + 7)) ?_ PassesOwn.never ?_)
  · exact ⟨[], many, _, rfl, fun g h1 h2 h3 => ⟨g, h1, h2, h3, rfl⟩, rfl, by show 0 + _ ≤ _; omega⟩
  · rintro n δ' ⟨L, wanted, b, rfl, k1, rfl, k3⟩
    refine et_cmp (by decide +kernel) (ev_var 4 rfl (ev_int (bo_gt (is_d (fun z => ?_) fun z => ?_))))
    · have z : 0 < wanted := by omega
      refine exs_cons (ex_set 5 sc__law_row.nd (ev_call (ok__law_draw T) (hr.mono (by decide)) (ea_well 0 rfl (ea_cons (ev_callB (id := "len") T.f_len (by decide +kernel) (ea_cons (ev_var 1 rfl (ea_nil (bc_lenL (ea_nil ⟨_, rfl, ⟨by rw [nsI_len]; omega, by rw [nsI_len]; omega⟩, ?_⟩))))))))))
      rintro d ⟨y, rfl, y0, y1⟩
      rw [nsI_len] at y1
      obtain ⟨m, rfl⟩ := Int.eq_ofNat_of_zero_le y0
      have hml : m < ws.length := by omega
      refine exs_mid (fun δ' => ∃ m, m < ws.length ∧ (many + 6 < L.length → ws.getD m 0 = 0) ∧ δ' = [.well, .dat (.lst (nd ws)), .dat (nc many), .own .l (nd L), .dat (nc wanted), .dat (nc m)]) (ex_if (et_cmp (by decide +kernel) (ev_thaw 3 rfl rfl (ev_callB (id := "len") T.f_len (by decide +kernel) (ea_cons (ev_var 3 rfl (ea_nil (bc_lenL ⟨rfl, ev_bin (ev_var 2 rfl (ev_int (bo_add (bo_gt (is_d (fun q => ?_) fun q => ?_)))))⟩)))))))) ?_
      · obtain ⟨X, Z, e1, e2⟩ := first_split (x := (0 : Int)) (l := nsI ws) (nsI_mem.mpr hw.leaf)
        have hX : (nsI ws)[X.length]? = some 0 := by rw [e1, List.getElem?_append_right (Nat.le_refl _), Nat.sub_self]; rfl
        have hX2 : ws[X.length]? = some 0 := by
          rw [List.getElem?_map] at hX
          obtain ⟨v, hv, hv2⟩ := Option.map_eq_some_iff.mp hX
          have : v = 0 := by omega
          exact this ▸ hv
        refine exs_cons (ex_set 5 sc__law_row.nd (ev_idxL (ev_var 1 rfl ⟨_, rfl, ea_cons (ev_int (ea_nil (dats1 ⟨0, X.length, rfl, ⟨Nat.zero_le _, hX, fun j _ hj e => ?_⟩, exs_nil ?_⟩)))⟩)))
        · rw [e1, List.getElem?_append_left hj] at e
          exact e2 (List.mem_of_getElem? e)
        · exact ⟨X.length, (List.getElem?_eq_some_iff.mp hX2).1, (fun _ => by rw [List.getD_eq_getElem?_getD, hX2]; rfl), rfl⟩
      · refine exs_nil ⟨m, hml, fun z2 => ?_, rfl⟩
        rw [nsI_len] at q
        omega
      · rintro δ' ⟨m, hml, h0, rfl⟩
        have hat := Mv.grD hml
        have h4 := hw.le _ (List.mem_of_getElem? hat)
        refine exs_cons (ex_append 3 rfl (by rw [nsI_len]; exact szl (by omega)) (ev_var 5 rfl ?_))
        refine exs_cons (ex_set 4 sc__law_row.nd (ev_bin (ev_bin (ev_var 4 rfl (ev_int (bo_sub (ev_ix (ev_var 1 rfl (ev_var 5 rfl (bix_lst (atI_nat (nsI_at hat)) (bo_add (exs_nil ?_))))))))))))
        refine ⟨(wanted - 1 + ws.getD m 0) + 4 * (many + 7 - (L.length + 1)), ?_, L ++ [m], wanted - 1 + ws.getD m 0, .dat (nc m), ?_, fun g g1 g2 g3 => ?_, by rw [List.length_append]; rfl, ?_⟩
        · by_cases q : many + 6 < L.length
          · rw [h0 q]; omega
          · omega
        · have e : ((wanted : Nat) : Int) - 1 + ((ws.getD m 0 : Nat) : Int) = ((wanted - 1 + ws.getD m 0 : Nat) : Int) := by omega
          show [Ent.well, .dat (.lst (nd ws)), .dat (nc many), .own .l (nd L ++ [nc m]), .dat (D.int (((wanted : Nat) : Int) - 1 + ((ws.getD m 0 : Nat) : Int))), .dat (nc m)] = _
          rw [e, nd_app]
          rfl
        · obtain ⟨cs, r, e, e1, e2, e3, e4, e5, e6⟩ := split_len (ws := ws) (a := ws.getD m 0) (b := wanted - 1) (g := g) (by rw [g3]; omega) g1 g2
          obtain ⟨f', f1, f2, f3, f4⟩ := k1 (.node m cs r) ⟨e3, e5⟩ ⟨by rw [e1]; exact hat, e4, e6⟩ (by show r.len + 1 = wanted; omega)
          refine ⟨f', f1, f2, f3, ?_⟩
          rw [f4, e, Fo.code_app]
          show nsI L ++ (m : Int) :: (cs.code ++ r.code) = nsI (L ++ [m]) ++ (cs.code ++ r.code)
          unfold nsI
          rw [List.map_append, List.append_assoc]
          rfl
        · rw [List.length_append]
          show L.length + 1 + _ ≤ _
          by_cases q : many + 6 < L.length
          · rw [h0 q]; omega
          · omega
    · have z : wanted = 0 := by omega
      subst z
      obtain ⟨f', f1, f2, f3, f4⟩ := k1 .nil trivial trivial rfl
      rw [show Fo.nil.code = [] from rfl, List.append_nil] at f4
      refine exs_freeze 3 rfl rfl (exs_cons (ex_ret (ev_callTy (T := "tuple") T.f_tuple (by decide +kernel) (ea_cons (ev_var 3 rfl (ea_nil (bc_tuple ⟨f', ?_, f1, f2, f3, ?_⟩)))))))
      · rw [show rowD f' = D.tup (f'.code.map D.int) from rfl, f4]
      · rw [f4, List.length_map]; omega
end
end BA

set_option maxHeartbeats 4000000
namespace BA
open PySem PySem.Spec PyProof.Rows L2
theorem down_eq (place : Nat) (f : Nat → Nat) : ∀ n, down place f n = (List.range n).reverse.map fun m => Stp.op (place + m) (f m)
  | 0 => rfl
  | n + 1 => by rw [List.range_succ, List.reverse_append]; show Stp.op (place + n) (f n) :: down place f n = _; rw [down_eq place f n]; rfl
theorem revr_at {n i : Nat} {d : D} (h : ((rgD 0 ((n : Nat) : Int)).reverse)[i]? = some d) : ∃ m, (List.range n).reverse[i]? = some m ∧ d = nc m ∧ m < n ∧ i < n := by
  have hi : i < n := by have := (List.getElem?_eq_some_iff.mp h).1; rw [List.length_reverse, rg_len] at this; exact this
  rw [List.getElem?_reverse (by rw [rg_len]; exact hi), rg_len] at h
  obtain ⟨rfl, h2⟩ := rg_at h
  refine ⟨n - 1 - i, ?_, rfl, h2, hi⟩
  rw [List.getElem?_reverse (by rw [List.length_range]; exact hi), List.length_range, List.getElem?_range (by omega)]
section
variable {P : Program} {w : World} {K : PySem.W.Frag} {mg : Str → Option Value} {base : Heap}
structure FW where
  ws : List Nat
  place : Nat
  lo : Nat
  hi : Nat
  size : Nat
abbrev FW.ok (x : FW) : Prop := x.ws.length ≤ 5 ∧ 0 < x.hi
abbrev cFirst : Con := ⟨FW, fun x => [.dat (.lst (nd x.ws)), .dat (nc x.place), .dat (nc x.lo), .dat (nc x.hi)], FW.ok, fun x d => d = stsD (way1 x.ws x.place x.lo x.hi)⟩
theorem ok__law_first_way (T : Txt K mg) : DefOk P w K mg base 1 "_law_first_way" cFirst := by
  refine m__law_first_way T (fun _ => rfl) fun f cdv A outer s H E hr B (x : FW) (hx : x.ok) => ?_
  obtain ⟨ws, place, lo, hi, size⟩ := x
  obtain ⟨h5, hh⟩ : ws.length ≤ 5 ∧ 0 < hi := hx
  show Exs _ B _ [.dat (.lst (nd ws)), .dat (nc place), .dat (nc lo), .dat (nc hi), .unb, .unb] ⟨fun _ => _, fun d => d = stsD (way1 ws place lo hi), fun _ => False, fun _ => False⟩
  refine exs_cons (ex_own 4 sc__law_first_way.nd (ea_cons (ev_tup (ea_cons (ev_str (ea_cons (ev_var 1 rfl (ea_cons (ev_var 2 rfl (ea_nil (dats3 ⟨by show 3 ≤ sizeLine; decide, ea_nil (dats1 ⟨by show 1 ≤ sizeLine; decide, ?_⟩)⟩)))))))))))
  refine exs_cons (ex_for PassesOwn.never rfl (ei_list (ev_rev (ev_listRg rfl T.f_list (er_1 T.f_range (ev_callB (id := "len") T.f_len (by decide +kernel) (ea_cons (ev_var 0 rfl (ea_nil (bc_lenL ⟨_, rfl, ?_, _, rfl, _, rfl, ?_⟩))))))))))
  · rw [nsI_len]; exact RgOk.of_le (by omega) (by omega) (by omega) (by omega)
  rw [nsI_len]
  refine ⟨fun i δ' => ∃ b : Ent, δ' = [.dat (.lst (nd ws)), .dat (nc place), .dat (nc lo), .dat (nc hi), .own .l ((Stp.op place lo :: ((List.range ws.length).reverse.take i).map fun m => Stp.op (place + m) (hi - 1 + ws.getD m 0)).map stD), b], ⟨_, rfl⟩, ?_, ?_⟩
  · rintro i d δ' hd ⟨b, rfl⟩
    obtain ⟨m, hm, rfl, hml, hil⟩ := revr_at hd
    refine eg_name 5 sc__law_first_way.nd ?_
    refine exs_cons (ex_append 4 rfl (by rw [List.length_map, List.length_cons, List.length_map, List.length_take, List.length_reverse, List.length_range]; exact szl (by omega)) (ev_tup (ea_cons (ev_str (ea_cons (ev_bin (ev_var 1 rfl (ev_var 5 rfl (bo_add ?_)))))))))
    refine ea_cons (ev_bin (ev_bin (ev_var 3 rfl (ev_int (bo_sub (ev_ix (ev_var 0 rfl (ev_var 5 rfl (bix_lst (atI_nat (nsI_at (Mv.grD hml))) (bo_add (ea_nil (dats3 ⟨by show 3 ≤ sizeLine; decide, exs_nil ⟨.dat (nc m), ?_⟩⟩))))))))))))
    have e1 : ((place : Nat) : Int) + ((m : Nat) : Int) = ((place + m : Nat) : Int) := by omega
    have e2 : ((hi : Nat) : Int) - 1 + ((ws.getD m 0 : Nat) : Int) = ((hi - 1 + ws.getD m 0 : Nat) : Int) := by omega
    rw [e1, e2]
    have e3 : (Stp.op place lo :: ((List.range ws.length).reverse.take (i + 1)).map fun m => Stp.op (place + m) (hi - 1 + ws.getD m 0)).map stD = (Stp.op place lo :: ((List.range ws.length).reverse.take i).map fun m => Stp.op (place + m) (hi - 1 + ws.getD m 0)).map stD ++ [stD (Stp.op (place + m) (hi - 1 + ws.getD m 0))] := by
      rw [List.take_add_one, hm, List.map_append]
      simp
    rw [e3]
    rfl
  · rintro δ' ⟨b, rfl⟩
    refine exs_freeze 4 rfl rfl (exs_cons (ex_ret (ev_var 4 rfl ?_)))
    rw [List.length_reverse, rg_len, List.take_of_length_le (by rw [List.length_reverse, List.length_range]; exact Nat.le_refl _)]
    show _ = D.lst ((Stp.op place lo :: down place (fun m => hi - 1 + ws.getD m 0) ws.length).map stD)
    rw [down_eq]
abbrev FW.ok2 (x : FW) : Prop := x.ws.length ≤ 5 ∧ 0 < x.ws.length ∧ x.place < x.size ∧ x.size ≤ 10
abbrev cSecond : Con := ⟨FW, fun x => [.dat (.lst (nd x.ws)), .dat (nc x.size), .dat (nc x.place), .dat (nc x.lo), .dat (nc x.hi)], FW.ok2, fun x d => d = stsD (way2 x.ws x.size x.place x.lo x.hi)⟩
theorem ok__law_second_way (T : Txt K mg) : DefOk P w K mg base 1 "_law_second_way" cSecond := by
  refine m__law_second_way T (fun _ => rfl) fun f cdv A outer s H E hr B (x : FW) (hx : x.ok2) => ?_
  obtain ⟨ws, place, lo, hi, size⟩ := x
  obtain ⟨h5, h0, hp, hs⟩ : ws.length ≤ 5 ∧ 0 < ws.length ∧ place < size ∧ size ≤ 10 := hx
  generalize hn : ws.length = n at *
  show Exs _ B _ [.dat (.lst (nd ws)), .dat (nc size), .dat (nc place), .dat (nc lo), .dat (nc hi), .unb, .unb, .unb, .unb, .unb] ⟨fun _ => _, fun d => d = stsD (way2 ws size place lo hi), fun _ => False, fun _ => False⟩
  have hnn : n * n ≤ 25 := Nat.mul_le_mul h5 h5
  refine exs_cons (ex_set 5 sc__law_second_way.nd (ev_callB (id := "len") T.f_len (by decide +kernel) (ea_cons (ev_var 0 rfl (ea_nil (bc_lenL ?_))))))
  rw [nsI_len, hn]
  refine exs_cons (ex_own 6 sc__law_second_way.nd (ea_cons (ev_tup (ea_cons (ev_str (ea_cons (ev_var 2 rfl (ea_cons (ev_var 4 rfl (ea_nil (dats3 ⟨by show 3 ≤ sizeLine; decide, ea_nil (dats1 ⟨by show 1 ≤ sizeLine; decide, ?_⟩)⟩)))))))))))
  refine exs_cons (ex_for PassesOwn.never rfl (ei_list (ev_rev (ev_listRg rfl T.f_list (er_1 T.f_range (ev_var 5 rfl ⟨_, rfl, RgOk.of_le (by omega) (by omega) (by omega) (by omega), _, rfl, _, rfl, ?_⟩))))))
  refine ⟨fun i δ' => ∃ b : Ent, δ' = [.dat (.lst (nd ws)), .dat (nc size), .dat (nc place), .dat (nc lo), .dat (nc hi), .dat (nc n), .own .l ((Stp.op place hi :: ((List.range n).reverse.take i).map fun m => Stp.op (place + m) lo).map stD), b, .unb, .unb], ⟨_, rfl⟩, ?_, ?_⟩
  · rintro i d δ' hd ⟨b, rfl⟩
    obtain ⟨m, hm, rfl, hml, hil⟩ := revr_at hd
    refine eg_name 7 sc__law_second_way.nd ?_
    refine exs_cons (ex_append 6 rfl (by rw [List.length_map, List.length_cons, List.length_map, List.length_take, List.length_reverse, List.length_range]; exact szl (by omega)) (ev_tup (ea_cons (ev_str (ea_cons (ev_bin (ev_var 2 rfl (ev_var 7 rfl (bo_add ?_)))))))))
    refine ea_cons (ev_var 3 rfl (ea_nil (dats3 ⟨by show 3 ≤ sizeLine; decide, exs_nil ⟨.dat (nc m), ?_⟩⟩)))
    have e1 : ((place : Nat) : Int) + ((m : Nat) : Int) = ((place + m : Nat) : Int) := by omega
    rw [e1]
    have e3 : (Stp.op place hi :: ((List.range n).reverse.take (i + 1)).map fun m => Stp.op (place + m) lo).map stD = (Stp.op place hi :: ((List.range n).reverse.take i).map fun m => Stp.op (place + m) lo).map stD ++ [stD (Stp.op (place + m) lo)] := by
      rw [List.take_add_one, hm, List.map_append]
      simp
    rw [e3]
    rfl
  rintro δ' ⟨b, rfl⟩
  rw [List.length_reverse, rg_len, List.take_of_length_le (by rw [List.length_reverse, List.length_range]; exact Nat.le_refl _)]
  refine exs_cons (ex_ownRg 8 sc__law_second_way.nd rfl T.f_list (er_1 T.f_range (ev_var 2 rfl ⟨_, rfl, RgOk.of_le (by omega) (by omega) (by omega) (by omega), ?_⟩)))
  have er : rgD 0 ((place : Nat) : Int) = nd (List.range place) := by
    show List.map _ (List.range ((place : Nat) - (0 : Int)).toNat) = List.map D.int (List.map _ (List.range place))
    rw [List.map_map, show (((place : Nat) : Int) - 0).toNat = place by omega]
    apply List.map_congr_left
    intro i _
    show D.int (0 + ((i : Nat) : Int)) = D.int ((i : Nat) : Int)
    rw [Int.zero_add]
  rw [er]
  refine exs_cons (ex_for PassesOwn.never rfl (ei_rg1 T.f_range (ev_var 5 rfl ⟨_, rfl, by omega, by omega, ?_⟩)))
  refine ⟨fun i δ' => ∃ b c : Ent, δ' = [.dat (.lst (nd ws)), .dat (nc size), .dat (nc place), .dat (nc lo), .dat (nc hi), .dat (nc n), .own .l ((Stp.op place hi :: (List.range n).reverse.map fun m => Stp.op (place + m) lo).map stD), b, .own .l (nd (List.range place ++ (List.range i).flatMap fun m => (List.range n).map fun o => place + o * n + m)), c],
    ⟨_, _, by rw [show (List.range 0).flatMap (fun m => (List.range n).map fun o => place + o * n + m) = [] from rfl, List.append_nil]; rfl⟩, ?_, ?_⟩
  · rintro m d δ' hd ⟨b, c, rfl⟩
    obtain ⟨rfl, hml⟩ := rg_at hd
    have hlen : ((List.range m).flatMap fun m => (List.range n).map fun o => place + o * n + m).length ≤ 25 := by
      rw [blocks h0 (fun m o => place + o * n + m), List.length_map, List.length_range]
      exact Nat.le_trans (Nat.mul_le_mul_right n (Nat.le_of_lt hml)) hnn
    refine eg_name 7 sc__law_second_way.nd ?_
    refine exs_cons (ex_extend 8 rfl (ev_lcG (own := [("_law_other", 9)]) rfl sc__law_second_way.nd (blkOk_by (by show blkC N__law_second_way (defScope s__law_second_way) _ _ = true; decide +kernel)) (takes_name 9 sc__law_second_way.nd rfl (by intro _ _ _ _ _; exact .inl rfl) (by intro _ _ _ _ _; exact .inr rfl)) (ei_rg1 T.f_range (ev_var 5 rfl ⟨_, rfl, by omega, by omega, ?_⟩))))
    refine ⟨fun _ _ => trivial, fun i acc => acc = nd ((List.range i).map fun o => place + o * n + m), rfl, fun i d acc hd hi2 => ?_, fun acc hacc => ?_⟩
    · obtain ⟨rfl, hil⟩ := rg_at hd
      refine ⟨by rw [hi2, nsI_len, List.length_map, List.length_range]; exact szl (by omega), fun s H0 C cl fp => ets_nil (t_t fun s H0 C cl fp => ?_)⟩
      refine ev_bin (ev_bin (ev_var 2 rfl (ev_bin (ev_var 9 rfl (ev_var 5 rfl (bo_mul (.inl ⟨by omega, by omega⟩) (bo_add (ev_var 7 rfl (bo_add ?_)))))))))
      have e1 : ((place : Nat) : Int) + ((i : Nat) : Int) * ((n : Nat) : Int) + ((m : Nat) : Int) = ((place + i * n + m : Nat) : Int) := by push_cast; rfl
      show acc ++ [D.int (((place : Nat) : Int) + ((i : Nat) : Int) * ((n : Nat) : Int) + ((m : Nat) : Int))] = _
      rw [e1, hi2, List.range_succ, List.map_append, nd_app]
      rfl
    · rw [rg_len] at hacc
      refine ⟨acc, rfl, ?_, exs_nil ⟨.dat (nc m), c, ?_⟩⟩
      · rw [hacc, nsI_len, nsI_len, List.length_append, List.length_map, List.length_range, List.length_range]
        exact sz (by omega)
      · rw [hacc, List.range_succ, List.flatMap_append, ← List.append_assoc, nd_app (_ ++ _) _]
        show [_, _, _, _, _, _, _, _, Ent.own .l (nd _ ++ nd _), _] = [_, _, _, _, _, _, _, _, Ent.own .l (nd _ ++ nd ((List.range n).map (fun o => place + o * n + m) ++ [])), _]
        rw [List.append_nil]
  rintro δ' ⟨b2, c2, rfl⟩
  rw [rg_len]
  have hlen : ((List.range n).flatMap fun m => (List.range n).map fun o => place + o * n + m).length = n * n := by
    rw [blocks h0 (fun m o => place + o * n + m), List.length_map, List.length_range]
  refine exs_cons (ex_extend 8 rfl (ev_listRg rfl T.f_list (er_2 T.f_range (ev_bin (ev_var 2 rfl (ev_bin (ev_var 5 rfl (ev_var 5 rfl (bo_mul (.inl ⟨by omega, by omega⟩) (bo_add ?_)))))))))) 
  refine ev_bin (ev_bin (ev_var 1 rfl (ev_int (bo_sub (ev_bin (ev_var 5 rfl (ev_var 5 rfl (bo_mul (.inl ⟨by omega, by omega⟩) (bo_add ⟨_, _, rfl, rfl, ?_, _, rfl, ?_, ?_⟩)))))))))
  all_goals have hnz : ((n : Nat) : Int) * ((n : Nat) : Int) = ((n * n : Nat) : Int) := by push_cast; rfl
  · rw [hnz]; exact RgOk.of_le (by omega) (by omega) (by omega) (by omega)
  · rw [hnz, nsI_len, List.length_append, List.length_range, hlen, List.length_map, List.length_range]
    exact sz (by omega)
  rw [hnz]
  have e9 : rgD (((place : Nat) : Int) + ((n * n : Nat) : Int)) (((size : Nat) : Int) - 1 + ((n * n : Nat) : Int)) = nd ((List.range (size - 1 - place)).map (place + n * n + ·)) := by
    show List.map _ (List.range _) = List.map D.int (List.map _ (List.map _ _))
    rw [List.map_map, List.map_map, show (((size : Nat) : Int) - 1 + ((n * n : Nat) : Int) - (((place : Nat) : Int) + ((n * n : Nat) : Int))).toNat = size - 1 - place by omega]
    apply List.map_congr_left
    intro i _
    show D.int (((place : Nat) : Int) + ((n * n : Nat) : Int) + ((i : Nat) : Int)) = D.int ((place + n * n + i : Nat) : Int)
    congr 1
  rw [e9, ← nd_app]
  refine exs_freeze 8 rfl rfl (exs_freeze 6 rfl rfl (exs_cons (ex_ret (ev_bin (ev_var 6 rfl (ev_lst (ea_cons (ev_tup (ea_cons (ev_str (ea_cons (ev_callTy (T := "tuple") T.f_tuple (by decide +kernel) (ea_cons (ev_var 8 rfl (ea_nil (bc_tuple ?_))))))))))))))))
  refine ea_nil (dats2 ⟨by show 2 ≤ sizeLine; decide, ea_nil (dats1 ⟨by show 1 ≤ sizeLine; decide, bo_addL ?_ ?_⟩)⟩)
  · rw [List.length_map, List.length_cons, List.length_map, List.length_reverse, List.length_range]
    exact sz (by show n + 1 + 1 ≤ _; omega)
  · show D.lst (_ ++ [stD (Stp.ord (psC n size place))]) = D.lst (((Stp.op place hi :: down place (fun _ => lo) ws.length) ++ [Stp.ord (psC ws.length size place)]).map stD)
    rw [hn, down_eq, List.map_append]
    rfl
structure TF where
  ws : List Nat
  r : List Nat
  p : Nat
  a : Nat
  q : Nat
  b : Nat
abbrev TF.ok (x : TF) : Prop := 0 < x.ws.length
def TF.A (x : TF) : List Stp := if x.q < x.p then [.op x.q x.b, .op (x.p + (x.ws.length - 1)) x.a] else [.op x.p x.a, .op (x.q + (x.ws.length - 1)) x.b]
def TF.B (x : TF) : List Stp := if x.q < x.p then [.op x.p x.a, .op x.q x.b] else [.op x.q x.b, .op x.p x.a]
abbrev cForms2 : Con := ⟨TF, fun x => [.dat (.lst (nd x.ws)), .dat (rackD x.r), .dat (nc x.p), .dat (nc x.a), .dat (nc x.q), .dat (nc x.b)], TF.ok, fun x d => d = .lst [stsD x.A, stsD x.B]⟩
theorem ok__law_two_forms (T : Txt K mg) : DefOk P w K mg base 1 "_law_two_forms" cForms2 := by
  refine m__law_two_forms T (fun _ => rfl) fun f cdv A outer s H E hr B (x : TF) (hx : 0 < x.ws.length) => ?_
  obtain ⟨ws, r, p, a, q, b⟩ := x
  have hx : 0 < ws.length := hx
  have fin : ∀ (p a q b : Nat) (Z : D), Z = .lst [stsD [.op p a, .op (q + (ws.length - 1)) b], stsD [.op q b, .op p a]] → ((q : Nat) : Int) + (((ws.length : Nat) : Int) - 1) = ((q + (ws.length - 1) : Nat) : Int) := fun _ _ _ _ _ _ => by omega
  show Exs _ B _ [.dat (.lst (nd ws)), .dat (rackD r), .dat (nc p), .dat (nc a), .dat (nc q), .dat (nc b), .unb, .unb] ⟨fun _ => _, fun d => d = .lst [stsD (TF.A ⟨ws, r, p, a, q, b⟩), stsD (TF.B ⟨ws, r, p, a, q, b⟩)], fun _ => False, fun _ => False⟩
  refine exs_cons (ex_set 6 sc__law_two_forms.nd (ev_bin (ev_callB (id := "len") T.f_len (by decide +kernel) (ea_cons (ev_var 0 rfl (ea_nil (bc_lenL (ev_int (bo_sub ?_)))))))))
  rw [nsI_len]
  refine exs_mid (fun δ' => ∃ p' a' q' b' : Nat, δ' = [.dat (.lst (nd ws)), .dat (rackD r), .dat (nc p'), .dat (nc a'), .dat (nc q'), .dat (nc b'), .dat (.int (((ws.length : Nat) : Int) - 1)), .unb] ∧ TF.A ⟨ws, r, p, a, q, b⟩ = [.op p' a', .op (q' + (ws.length - 1)) b'] ∧ TF.B ⟨ws, r, p, a, q, b⟩ = [.op q' b', .op p' a']) (ex_if (et_cmp (by decide +kernel) (ev_var 4 rfl (ev_var 2 rfl (bo_lt (is_d (fun z => ?_) fun z => ?_)))))) ?_
  · have z : q < p := by omega
    refine exs_cons (ex_asg (ev_tup (ea_cons (ev_var 4 rfl (ea_cons (ev_var 5 rfl (ea_cons (ev_var 2 rfl (ea_cons (ev_var 3 rfl (ea_nil (dats4 ⟨by show 4 ≤ sizeLine; decide, ?_⟩))))))))))))
    refine eg_tup rfl (egs_cons (eg_name 2 sc__law_two_forms.nd (egs_cons (eg_name 3 sc__law_two_forms.nd (egs_cons (eg_name 4 sc__law_two_forms.nd (egs_cons (eg_name 5 sc__law_two_forms.nd (egs_nil (exs_nil ⟨q, b, p, a, rfl, ?_, ?_⟩))))))))))
    · unfold TF.A; rw [if_pos z]
    · unfold TF.B; rw [if_pos z]
  · have z : ¬ q < p := by omega
    refine exs_nil ⟨p, a, q, b, rfl, ?_, ?_⟩
    · unfold TF.A; rw [if_neg z]
    · unfold TF.B; rw [if_neg z]
  · rintro δ' ⟨p', a', q', b', rfl, eA, eB⟩
    rw [eA, eB]
    refine exs_cons (ex_set 7 sc__law_two_forms.nd (ev_lst (ea_cons (ev_tup (ea_cons (ev_str (ea_cons (ev_var 2 rfl (ea_cons (ev_var 3 rfl (ea_nil (dats3 ⟨by show 3 ≤ sizeLine; decide, ?_⟩))))))))))))
    refine ea_cons (ev_tup (ea_cons (ev_str (ea_cons (ev_bin (ev_var 4 rfl (ev_var 6 rfl (bo_add (ea_cons (ev_var 5 rfl (ea_nil (dats3 ⟨by show 3 ≤ sizeLine; decide, ea_nil (dats2 ⟨by show 2 ≤ sizeLine; decide, ?_⟩)⟩))))))))))))
    refine exs_cons (ex_ret (ev_lst (ea_cons (ev_var 7 rfl (ea_cons (ev_lst (ea_cons (ev_tup (ea_cons (ev_str (ea_cons (ev_var 4 rfl (ea_cons (ev_var 5 rfl (ea_nil (dats3 ⟨by show 3 ≤ sizeLine; decide, ?_⟩))))))))))))))))
    refine ea_cons (ev_tup (ea_cons (ev_str (ea_cons (ev_var 2 rfl (ea_cons (ev_var 3 rfl (ea_nil (dats3 ⟨by show 3 ≤ sizeLine; decide, ea_nil (dats2 ⟨by show 2 ≤ sizeLine; decide, ea_nil (dats2 ⟨by show 2 ≤ sizeLine; decide, ?_⟩)⟩)⟩)))))))))
    have e : ((q' : Nat) : Int) + (((ws.length : Nat) : Int) - 1) = ((q' + (ws.length - 1) : Nat) : Int) := by omega
    rw [e]
    rfl
end
end BA

set_option maxHeartbeats 4000000
namespace BA
open PySem PySem.Spec PyProof.Rows L2
theorem ThOk.step {ws r r' : List Nat} {st : Stp} {t u : Th} (h : ThOk ws r t) (h0 : 0 < ws.length) (pl : plain st) (hr : RkMv ws st r r') (m : Mv ws st t u) : ThOk ws r' u :=
  ⟨⟨h.1.1, Nat.le_trans (m.codeLe pl) h.1.2.1, m.full pl h.1.2.2.1, m.wf.mp h.1.2.2.2⟩, h.2.step h0 pl hr m⟩
theorem ThOk.run {ws r r' : List Nat} {sts : List Stp} (h : Run ws r sts r') (h0 : 0 < ws.length) : ∀ {t u : Th}, ThOk ws r t → (∀ st ∈ sts, plain st) → MvRun ws t sts u → ThOk ws r' u := by
  induction h with
  | nil => intro t u h _ m; rw [← m.nil_eq]; exact h
  | cons a b c ih =>
    intro t u h pl m
    cases m with
    | cons x y => exact ih (h.step h0 (pl _ (List.mem_cons_self ..)) a x) (fun s hs => pl s (List.mem_cons_of_mem _ hs)) y
section
variable {P : Program} {w : World} {K : PySem.W.Frag} {mg : Str → Option Value} {base : Heap}
structure WK where
  u : TU
  t : Th
  t' : Th
abbrev WK.ok (x : WK) : Prop := TU.ok x.u ∧ (∀ st ∈ x.u.sts, plain st) ∧ ThOk x.u.ws x.u.r x.t ∧ MvRun x.u.ws x.t x.u.sts x.t'
abbrev cWalked (C : Addr) : Con := ⟨WK, fun x => [.dat (kD C x.u.ws), .dat (rackD x.u.r), .dat (stsD x.u.sts), .dat (thD x.t)], WK.ok, fun x d => d = .tup [rackD x.u.r', thD x.t']⟩
theorem ok__law_walked (T : Txt K mg) : DefOk P w K mg base 10 "_law_walked" (cWalked (CK K)) := by
  refine m__law_walked T (fun _ => rfl) fun f cdv A outer s H E hr B (x : WK) (hx : x.ok) => ?_
  obtain ⟨⟨ws, r, sts, r'⟩, t, t'⟩ := x
  obtain ⟨⟨h0, h1, h2, h3, h4⟩, h5, h6, h7⟩ : (0 < ws.length ∧ ws.length < 100 ∧ RkOk r ∧ sts.length ≤ 1000 ∧ Run ws r sts r') ∧ (∀ st ∈ sts, plain st) ∧ ThOk ws r t ∧ MvRun ws t sts t' := hx
  show Exs _ B _ [.dat (kD (CK K) ws), .dat (rackD r), .dat (stsD sts), .dat (thD t), .unb] ⟨fun _ => _, fun d => d = .tup [rackD r', thD t'], fun _ => False, fun _ => False⟩
  refine exs_cons (ex_for PassesOwn.never rfl (ei_list (ev_var 2 rfl ⟨_, rfl, ?_⟩)))
  refine ⟨fun i δ' => ∃ (m : List Nat) (u : Th) (a : Ent), δ' = [.dat (kD (CK K) ws), .dat (rackD m), .dat (stsD sts), .dat (thD u), a] ∧ RkOk m ∧ ThOk ws m u ∧ Run ws m (sts.drop i) r' ∧ MvRun ws u (sts.drop i) t', ⟨r, t, _, rfl, h2, h6, h4, h7⟩, ?_, ?_⟩
  · rintro i d δ' hd ⟨m, u, a, rfl, k1, k2, k3, k4⟩
    rw [List.getElem?_map] at hd
    obtain ⟨st, hst, rfl⟩ := Option.map_eq_some_iff.mp hd
    rw [drop_at hst] at k3 k4
    cases k3 with
    | @cons _ m' _ _ _ y1 y2 y3 =>
      cases k4 with
      | @cons _ u' _ _ _ z1 z2 =>
        refine eg_name 4 sc__law_walked.nd ?_
        refine exs_cons (ex_set 3 sc__law_walked.nd (ev_call (ok_led_to T) (hr.mono (by decide)) (ea_cons (ev_var 0 rfl (ea_cons (ev_var 1 rfl (ea_cons (ev_var 4 rfl (ea_cons (ev_var 3 rfl (ea_nil ⟨⟨ws, m, st, m', u, u'⟩, rfl, ⟨⟨⟨h0, h1, k1, y1⟩, y2⟩, k2, z1⟩, ?_⟩)))))))))))
        rintro d rfl
        refine exs_cons (ex_set 1 sc__law_walked.nd (ev_call (ok_rack_after T) (hr.mono (by decide)) (ea_cons (ev_var 0 rfl (ea_cons (ev_var 1 rfl (ea_cons (ev_var 4 rfl (ea_nil ⟨⟨ws, m, st, m'⟩, rfl, ⟨⟨h0, h1, k1, y1⟩, y2⟩, ?_⟩)))))))))
        rintro d rfl
        exact exs_nil ⟨m', u', _, rfl, y2, k2.step h0 (h5 st (List.mem_of_getElem? hst)) y1 z1, y3, z2⟩
  · rintro δ' ⟨m, u, a, rfl, k1, k2, k3, k4⟩
    rw [List.length_map, List.drop_length] at k3 k4
    have e := k4.nil_eq
    subst e
    have e : m = r' := by cases k3; rfl
    subst e
    exact exs_cons (ex_ret (ev_tup (ea_cons (ev_var 1 rfl (ea_cons (ev_var 3 rfl (ea_nil (dats2 ⟨by show 2 ≤ sizeLine; decide, rfl⟩))))))))
structure AL where
  ws : List Nat
  r : List Nat
  A : List Stp
  B : List Stp
  r' : List Nat
  items : List Th
abbrev AL.ok (x : AL) : Prop := K5 x.ws ∧ RkOk x.r ∧ (∀ y ∈ x.r, y ≤ 10) ∧ x.A.length ≤ 100 ∧ x.B.length ≤ 100 ∧ Pair x.ws x.r x.A x.B x.r' ∧ x.items.length ≤ 100 ∧ ∀ t ∈ x.items, ThOk x.ws x.r t
theorem thD_pl2 (t : Th) (n : Nat) : D.pl (thD t) (n + 2) = true := by
  show (true && (D.pls (t.f.code.map D.int) n && true)) = true
  rw [D.pls_ints]
  rfl
theorem end_pl (r : List Nat) (t : Th) : D.pl (.tup [rackD r, thD t]) 60 = true := by
  show (D.pl (rackD r) 59 && (D.pl (thD t) 59 && true)) = true
  rw [thD_pl2 t 57, show D.pl (rackD r) 59 = true from D.pls_ints _ 58]
  rfl
abbrev cAlike (C : Addr) : Con := ⟨AL, fun x => [.dat (kD C x.ws), .dat (rackD x.r), .dat (.lst [stsD x.A, stsD x.B]), .dat (.lst (x.items.map thD))], AL.ok, fun _ d => d = .bl true⟩
theorem ok__law_alike (T : Txt K mg) : DefOk P w K mg base 15 "_law_alike" (cAlike (CK K)) := by
  refine m__law_alike T (fun _ => rfl) fun f cdv A outer s H E hr B (x : AL) (hx : x.ok) => ?_
  obtain ⟨ws, r, SA, SB, r', items⟩ := x
  obtain ⟨hk, hrk, h10, hA, hB, hp, hil, hth⟩ : K5 ws ∧ RkOk r ∧ (∀ y ∈ r, y ≤ 10) ∧ SA.length ≤ 100 ∧ SB.length ≤ 100 ∧ Pair ws r SA SB r' ∧ items.length ≤ 100 ∧ ∀ t ∈ items, ThOk ws r t := hx
  obtain ⟨h0, h5, h4⟩ := id hk
  have plA : ∀ st ∈ SA, plain st := fun st h => (hp.opsA st h).plain
  have tuA : TU.ok ⟨ws, r, SA, r'⟩ := ⟨h0, by show ws.length < 100; omega, hrk, by show SA.length ≤ 1000; omega, hp.ra⟩
  have tuB : TU.ok ⟨ws, r, SB, r'⟩ := ⟨h0, by show ws.length < 100; omega, hrk, by show SB.length ≤ 1000; omega, hp.rb⟩
  have ex : ∀ t ∈ items, ∃ u, MvRun ws t SA u ∧ MvRun ws t SB u ∧ ThOk ws r' u := fun t ht => by
    have h := hth t ht
    obtain ⟨u, hu, _⟩ := MvRun.ex h0 hp.ra plA h.2 h.1.2.2.1
    exact ⟨u, hu, hp.agree t u (List.getElem?_eq_some_iff.mp h.2.2).1 hu, ThOk.run hp.ra h0 h plA hu⟩
  show Exs _ B _ [.dat (kD (CK K) ws), .dat (rackD r), .dat (.lst [stsD SA, stsD SB]), .dat (.lst (items.map thD)), .unb, .unb, .unb, .unb] ⟨fun _ => _, fun d => d = .bl true, fun _ => False, fun _ => False⟩
  refine exs_cons (ex_for PassesOwn.never rfl (ei_list (ev_var 3 rfl ⟨_, rfl, ?_⟩)))
  refine ⟨fun i δ' => ∃ a b c : Ent, δ' = [.dat (kD (CK K) ws), .dat (rackD r), .dat (.lst [stsD SA, stsD SB]), .dat (.lst (items.map thD)), a, b, c, .unb], ⟨_, _, _, rfl⟩, ?_, ?_⟩
  · rintro i d δ' hd ⟨a, b, c, rfl⟩
    rw [List.getElem?_map] at hd
    obtain ⟨t, ht, rfl⟩ := Option.map_eq_some_iff.mp hd
    have htm := List.mem_of_getElem? ht
    obtain ⟨u, hu1, hu2, hu3⟩ := ex t htm
    refine eg_name 4 sc__law_alike.nd ?_
    refine exs_cons (ex_setLc 5 (own := [("_law_steps", 6)]) rfl sc__law_alike.nd (blkOk_by (by show blkC N__law_alike (defScope s__law_alike) _ _ = true; decide +kernel)) (takes_name 6 sc__law_alike.nd rfl (by intro _ _ _ _ _; exact .inl rfl) (by intro _ _ _ _ _; exact .inr rfl)) (ei_list (ev_var 2 rfl ⟨_, rfl, ?_⟩)) (by rfl))
    refine ⟨fun _ _ => trivial, fun i acc => acc = List.replicate i (.tup [rackD r', thD u]), rfl, fun i d acc hd hi => ?_, fun acc hacc => ?_⟩
    · have key : ∃ S, d = stsD S ∧ TU.ok ⟨ws, r, S, r'⟩ ∧ (∀ st ∈ S, plain st) ∧ MvRun ws t S u := by
        match i, hd with
        | 0, hd => cases hd; exact ⟨SA, rfl, tuA, plA, hu1⟩
        | 1, hd => cases hd; exact ⟨SB, rfl, tuB, hp.plB, hu2⟩
      obtain ⟨S', rfl, q1, q2, q3⟩ := key
      have hi2 := (List.getElem?_eq_some_iff.mp hd).1
      have hi2 : i < 2 := hi2
      refine ⟨by rw [hi, List.length_replicate]; exact szl (by omega), fun s H0 C cl fp => ets_nil (t_t fun s H0 C cl fp => ?_)⟩
      refine ev_call (ok__law_walked T) (hr.mono (by decide)) (ea_cons (ev_var 0 rfl (ea_cons (ev_var 1 rfl (ea_cons (ev_var 6 rfl (ea_cons (ev_var 4 rfl (ea_nil ⟨⟨⟨ws, r, S', r'⟩, t, u⟩, rfl, ⟨q1, q2, hth t htm, q3⟩, ?_⟩)))))))))
      rintro d rfl
      show acc ++ [_] = _
      rw [hi, List.replicate_succ']
    · subst hacc
      refine exs_cons (ex_if (et_cmp (by decide +kernel) (ev_ix (ev_var 5 rfl (ev_int (bix_lst (d := .tup [rackD r', thD u]) (by rfl) (ev_ix (ev_var 5 rfl (ev_int (bix_lst (d := .tup [rackD r', thD u]) (by rfl) (bo_differ (end_pl r' u) hr (is_f (exs_nil (exs_nil ?_))))))))))))))
      exact ⟨_, _, _, rfl⟩
  rintro δ' ⟨a, b, c, rfl⟩
  refine exs_cons (ex_set 7 sc__law_alike.nd (ev_lcG (own := [("_law_steps", 6)]) rfl sc__law_alike.nd (blkOk_by (by show blkC N__law_alike (defScope s__law_alike) _ _ = true; decide +kernel)) (takes_name 6 sc__law_alike.nd rfl (by intro _ _ _ _ _; exact .inl rfl) (by intro _ _ _ _ _; exact .inr rfl)) (ei_list (ev_var 2 rfl ⟨_, rfl, ?_⟩))))
  refine ⟨fun _ _ => trivial, fun i acc => acc.length = i ∧ (0 < i → ∃ xs, acc[0]? = some (tD K ws r SA r' xs)) ∧ (1 < i → ∃ ys, acc[1]? = some (tD K ws r SB r' ys)), ⟨rfl, fun z => by omega, fun z => by omega⟩, fun i d acc hd hi => ?_, fun acc hacc => ?_⟩
  · have key : ∃ S, d = stsD S ∧ TU.ok ⟨ws, r, S, r'⟩ ∧ (i = 0 → S = SA) ∧ (i = 1 → S = SB) ∧ i < 2 := by
      match i, hd with
      | 0, hd => cases hd; exact ⟨SA, rfl, tuA, fun _ => rfl, fun z => by omega, by omega⟩
      | 1, hd => cases hd; exact ⟨SB, rfl, tuB, fun z => by omega, fun _ => rfl, by omega⟩
    obtain ⟨S', rfl, q1, q2, q3, q4⟩ := key
    obtain ⟨i1, i2, i3⟩ := hi
    refine ⟨by rw [i1]; exact szl (by omega), fun s H0 C cl fp => ets_nil (t_t fun s H0 C cl fp => ?_)⟩
    refine ev_make (ok_Turning T) (hr.mono (by decide)) (ea_cons (ev_var 0 rfl (ea_cons (ev_var 1 rfl (ea_cons (ev_var 6 rfl (ea_nil ⟨⟨ws, r, S', r'⟩, rfl, q1, ?_⟩)))))))
    rintro d ⟨zs, rfl⟩
    refine ⟨by rw [List.length_append, i1]; rfl, fun _ => ?_, fun z => ?_⟩
    · by_cases z : i = 0
      · subst z
        have e : acc = [] := List.eq_nil_of_length_eq_zero i1
        subst e
        exact ⟨zs, by rw [q2 rfl]; rfl⟩
      · obtain ⟨xs, hxs⟩ := i2 (by omega)
        exact ⟨xs, by rw [List.getElem?_append_left (by omega)]; exact hxs⟩
    · have z : i = 1 := by omega
      subst z
      exact ⟨zs, by rw [List.getElem?_append_right (by omega), i1, q3 rfl]; rfl⟩
  obtain ⟨c1, c2, c3⟩ := hacc
  obtain ⟨xs, c2⟩ := c2 (by show 0 < 2; omega)
  obtain ⟨ys, c3⟩ := c3 (by show 1 < 2; omega)
  have a0 : atI acc 0 = some (tD K ws r SA r' xs) := atI_of (by omega) c2
  have a1 : atI acc 1 = some (tD K ws r SB r' ys) := atI_of (by omega) c3
  refine exs_cons (ex_if (et_w (ew_or (et_cmp (by decide +kernel) (ev_fld T.cTurning T.na_end (ev_ix (ev_var 7 rfl (ev_int (bix_lst a0 ⟨_, _, _, rfl, rfl, ev_fld T.cTurning T.na_end (ev_ix (ev_var 7 rfl (ev_int (bix_lst a1 ⟨_, _, _, rfl, rfl, bo_differ (nd_pl _) hr (is_f ?_)⟩))))⟩)))))))))
  refine ew_or1 (et_cmp (by decide +kernel) (ev_call (ok_are_same T) (hr.mono (by decide)) (ea_cons (ev_ix (ev_var 7 rfl (ev_int (bix_lst a0 (ea_cons (ev_ix (ev_var 7 rfl (ev_int (bix_lst a1 (ea_nil ⟨⟨ws, r, SA, SB, r', xs, ys⟩, rfl, ⟨hk, hrk, h10, hA, hB, hp⟩, ?_⟩)))))))))))))
  rintro d rfl
  refine ev_bl (bo_notT (is_f (exs_nil ?_)))
  refine exs_cons (ex_ret (ev_cmp (by decide +kernel) (ev_lcG (own := [("_law_item", 4)]) rfl sc__law_alike.nd (blkOk_by (by show blkC N__law_alike (defScope s__law_alike) _ _ = true; decide +kernel)) (takes_name 4 sc__law_alike.nd rfl (by intro _ _ _ _ _; exact .inl rfl) (by intro _ _ _ _ _; exact .inr rfl)) (ei_list (ev_var 3 rfl ⟨_, rfl, ?_⟩)))))
  refine ⟨fun _ _ => trivial, fun i acc => acc = (items.take i).map thD, rfl, fun i d acc' hd hi => ?_, fun acc' hacc => ?_⟩
  · rw [List.getElem?_map] at hd
    obtain ⟨t, ht, rfl⟩ := Option.map_eq_some_iff.mp hd
    have htm := List.mem_of_getElem? ht
    obtain ⟨u, hu1, hu2, hu3⟩ := ex t htm
    have hi2 := (List.getElem?_eq_some_iff.mp ht).1
    refine ⟨by rw [hi, List.length_map, List.length_take]; exact szl (by omega), fun s H0 C cl fp => ets_nil (t_t fun s H0 C cl fp => ?_)⟩
    refine ev_meth (ok_Turning_back T) (hr.mono (by decide)) (by decide) (ev_ix (ev_var 7 rfl (ev_int (bix_lst a1 ⟨_, rfl, ea_cons (ev_meth (ok_Turning_run T) (hr.mono (by decide)) (by decide) (ev_ix (ev_var 7 rfl (ev_int (bix_lst a0 ⟨_, rfl, ea_cons (ev_var 4 rfl (ea_nil ⟨⟨⟨ws, r, SA, r'⟩, xs, t, u⟩, rfl, ⟨tuA, plA, hth t htm, hu1⟩, ?_⟩))⟩)))))⟩))))
    rintro d rfl
    refine ea_nil ⟨⟨⟨ws, r, SB, r'⟩, ys, t, u⟩, rfl, ⟨⟨tuB, hp.plB, hth t htm, hu2⟩, hu3, (hp.rb.und hrk).2⟩, ?_⟩
    rintro d rfl
    show acc' ++ [thD t] = _
    rw [hi, List.take_add_one, ht, List.map_append]
    rfl
  · rw [List.length_map, List.take_length] at hacc
    subst hacc
    refine ev_var 3 rfl (bo_same ?_ hr rfl)
    refine D.pls_all (n := 59) fun d hd => ?_
    obtain ⟨t, _, rfl⟩ := List.mem_map.mp hd
    exact thD_pl2 t 57
end
end BA

set_option maxHeartbeats 4000000
namespace BA
open PySem PySem.Spec PyProof.Rows L2
theorem bo_neNil {X : Cx} {B : Base} {δ : List Ent} {R : D → Prop} {k : Nat} {ns : List Int} (hr : Room k X.A) (hn : ns ≠ []) (h : R (.bl true)) : Bo X B (compareOp .NotEq) (.lst (ns.map D.int)) (.lst []) δ R := fun S H σ v u ok r1 r2 Q q => by
  have p1 : D.pl (.lst (ns.map D.int)) 60 = true := D.pls_ints ns 59
  have p2 : D.pl (.lst []) 60 = true := rfl
  have l1 := D.pl_lay _ 60 p1
  have l2 := D.pl_lay _ 60 p2
  have sp1 : SeqAt.shaped (D.lst (ns.map D.int)).py = true := Bool.and_eq_true_iff.mpr ⟨l1.1, decide_eq_true (Nat.le_trans l1.2 (by decide))⟩
  have sp2 : SeqAt.shaped (D.lst []).py = true := Bool.and_eq_true_iff.mpr ⟨l2.1, decide_eq_true (Nat.le_trans l2.2 (by decide))⟩
  refine ⟨_, op_neD hr.units, _, _, D.dp ok.sh _ 60 v p1 r1, D.dp ok.sh _ 60 u p2 r2, sp1, sp2, q _ (.bl true) S H h ok.refl (show V.bl _ = V.bl _ from ?_)⟩
  cases ns with
  | nil => exact absurd rfl hn
  | cons a ns => rfl
/-- a rack at two places -/
theorem two_at {r : List Nat} {p q a b : Nat} (h : r[p]? = some a) (h2 : r[q]? = some b) (lt : p < q) : ∃ X Y Z, r = X ++ a :: (Y ++ b :: Z) ∧ X.length = p ∧ q = X.length + 1 + Y.length := by
  obtain ⟨hp, e1⟩ := List.getElem?_eq_some_iff.mp h
  obtain ⟨hq, e2⟩ := List.getElem?_eq_some_iff.mp h2
  have d1 := drop_at h
  have h3 : (r.drop (p + 1))[q - (p + 1)]? = some b := by rw [List.getElem?_drop, show p + 1 + (q - (p + 1)) = q by omega]; exact h2
  have d2 := drop_at h3
  refine ⟨r.take p, (r.drop (p + 1)).take (q - (p + 1)), (r.drop (p + 1)).drop (q - (p + 1) + 1), ?_, by rw [List.length_take]; omega, by rw [List.length_take, List.length_take, List.length_drop]; omega⟩
  rw [← d2, List.take_append_drop, ← d1, List.take_append_drop]
theorem pair_TF {ws r : List Nat} {p q a b many k : Nat} (hk : KOk ws) (hl : r.length ≤ 5) (hx : ∀ x ∈ r, x ≤ 5) (h1 : r[p]? = some many) (h2 : r[q]? = some k) (ha : a < many) (hb : b < k) (ne : q ≠ p) :
    ∃ r', Pair ws r (TF.A ⟨ws, r, p, a, q, b⟩) (TF.B ⟨ws, r, p, a, q, b⟩) r' := by
  unfold TF.A TF.B
  by_cases z : q < p
  · obtain ⟨X, Y, Z, e, e1, e2⟩ := two_at h2 h1 z
    have hl2 : X.length + Y.length + Z.length ≤ 3 := by rw [e] at hl; simp only [List.length_append, List.length_cons] at hl; omega
    have q1 := pair2 (ws := ws) (X := X) (Y := Y) (Z := Z) (a := k) (b := many) (s1 := b) (s2 := a) hk hb ha hl2 (by rw [← e]; exact hx)
    rw [← e, ← e2, e1] at q1
    simp only [if_pos z]
    exact q1
  · obtain ⟨X, Y, Z, e, e1, e2⟩ := two_at h1 h2 (by omega)
    have hl2 : X.length + Y.length + Z.length ≤ 3 := by rw [e] at hl; simp only [List.length_append, List.length_cons] at hl; omega
    have q1 := pair2 (ws := ws) (X := X) (Y := Y) (Z := Z) (a := many) (b := k) (s1 := a) (s2 := b) hk ha hb hl2 (by rw [← e]; exact hx)
    rw [← e, ← e2, e1] at q1
    simp only [if_neg z]
    exact q1
theorem TF.A_len (x : TF) : x.A.length ≤ 100 := by unfold TF.A; split <;> exact (by decide : 2 ≤ 100)
theorem TF.B_len (x : TF) : x.B.length ≤ 100 := by unfold TF.B; split <;> exact (by decide : 2 ≤ 100)
theorem WsOk.k {ws : List Nat} (h : WsOk ws) : KOk ws := ⟨h.lo, h.hi, h.le⟩
theorem WsOk.k5 {ws : List Nat} (h : WsOk ws) : K5 ws := ⟨by have := h.lo; omega, h.hi, h.le⟩
/-- the law's promise -/
def spLaw (K : PySem.W.Frag) : Sp := fun vs H Q _ => ∃ (a : Addr) (ns : List Int), vs = [.ref a] ∧ SqL K H a (ns.map V.int) ∧ ∀ H', Q (.bl true) H'
theorem ok_scr {K : PySem.W.Frag} {H : Hp} {a : Addr} {ns : List Int} {N : List Str} (h : SqL K H a (ns.map V.int)) (hn : 1 ≤ N.length) :
    ∃ S, Ok K ⟨S, H, fun _ => False⟩ S H (L2.start N [.ref a]) (.scr ns :: List.replicate (N.length - 1) .unb) := by
  refine ⟨fun b => if b = a then H a else none, ?_⟩
  have ext : Ext (fun b => if b = a then H a else none) H := fun b o e => by
    have e : (if b = a then H a else none) = some o := e
    by_cases z : b = a
    · subst z; rw [if_pos rfl] at e; exact e
    · rw [if_neg z] at e; cases e
  have no : ∀ {i : Nat} {k : Kd} {xs : List D}, (Ent.scr ns :: List.replicate (N.length - 1) Ent.unb)[i]? ≠ some (.own k xs) := fun {i k xs} e => by
    cases i with
    | zero => cases e
    | succ i =>
      rw [List.getElem?_cons_succ, List.getElem?_replicate] at e
      split at e <;> cases e
  refine ⟨by unfold L2.start; simp, fun i e q => ?_, fun i j k xs e b _ q => absurd q no, ext, fun i k xs b q => absurd q no, fun b w => ?_, Grow.refl ext⟩
  · cases i with
    | zero =>
      cases q
      refine ⟨_, start_at (v := .ref a) rfl, a, rfl, ?_⟩
      rcases h with h | h
      · refine .inl ?_
        rcases h with h | ⟨o, h⟩
        · exact .inl (by show (if a = a then H a else none) = _; rw [if_pos rfl]; exact h)
        · exact .inr ⟨o, by show (if a = a then H a else none) = _; rw [if_pos rfl]; exact h⟩
      · exact .inr h
    | succ i =>
      rw [List.getElem?_cons_succ, List.getElem?_replicate] at q
      split at q
      · rename_i lt
        cases q
        have hi : i + 1 < (L2.start N [V.ref a]).length := by unfold L2.start; simp; omega
        exact ⟨_, List.getElem?_eq_getElem hi, True.intro⟩
      · cases q
  · obtain ⟨i, w1, _⟩ := w
    cases i with
    | zero => cases w1
    | succ i =>
      rw [List.getElem?_cons_succ, List.getElem?_replicate] at w1
      split at w1 <;> cases w1
section
variable {P : Program} {w : World} {K : PySem.W.Frag} {mg : Str → Option Value} {base : Heap}
theorem ok_law (T : Txt K mg) : ∃ fd : FuncData, (∀ (s : Shared) (v : Value), BindsTo s fd ⟨[v], []⟩ [("_law_script", v)]) ∧ ∀ base : Heap, FnOk P w K mg base CX0 17 (He.ga K "law") fd ["_law_script"] (spLaw K) := by
  obtain ⟨fd, F⟩ := T.c.def_ 54 (d := d_law) rfl
  have b := FunD.bindsA (ps := ["_law_script"]) F fun _ _ _ _ _ _ us hl => match us, hl with | [_], _ => rfl
  refine ⟨fd, fun s v => b s [v] rfl, fun base => F.ok sc_law (fun vs H Q E h => ?_) fun cdv A outer s H vs Q E hr h => ?_⟩
  · obtain ⟨_, _, rfl, _⟩ := h
    rfl
  obtain ⟨ad, ns, rfl, hS, q⟩ := h
  obtain ⟨S, ok⟩ := ok_scr (N := N_law) hS (by show 1 ≤ 18; decide)
  suffices hx : Exs (cxOf CX0 P w K mg base N_law "law" (defScope s_law) (He.ga K "law") cdv A outer s H E).nox ⟨S, H, fun _ => False⟩ (defBody s_law) [.scr ns, .unb, .unb, .unb, .unb, .unb, .unb, .unb, .unb, .unb, .unb, .unb, .unb, .unb, .unb, .unb, .unb, .unb] ⟨fun _ => False, fun d => d = .bl true, fun _ => False, fun _ => False⟩ by
    obtain ⟨t, ht, hq⟩ := hx S H _ ok { nx := fun _ H' => Q .non H', rt := Q } ⟨fun _ _ _ _ _ _ z => z.elim, fun S1 H1 v d g1 r1 e => by subst e; rw [show v = V.bl true from r1]; exact q H1, fun _ _ _ _ _ _ z => z.elim, fun _ _ _ _ _ _ z => z.elim⟩
    exact ⟨t, ht.nox, hq⟩
  generalize hB : (⟨S, H, fun _ => False⟩ : Base) = B
  have e5 : [D.int 0] ++ (ns.take 5).map D.int = (0 :: ns.take 5).map D.int := rfl
  refine exs_cons (ex_for PassesOwn.never rfl (ei_list (ev_bin (ev_lst (ea_cons (ev_int (ea_nil (dats1 ⟨by show 1 ≤ sizeLine; decide, ev_slScr (m := 5) 0 rfl (bo_addL (by rw [List.length_map, List.length_take]; exact sz (by show 1 + min 5 ns.length ≤ _; omega)) ⟨_, rfl, ?_⟩)⟩))))))))
  rw [e5]
  refine ⟨fun i δ' => ∃ e1 e2 e3 e4 e5 e6 e7 e8 e9 e10 e11 e12 e13 e14 e15 e16 e17 : Ent, δ' = [.scr ns, e1, e2, e3, e4, e5, e6, e7, e8, e9, e10, e11, e12, e13, e14, e15, e16, e17], ⟨_, _, _, _, _, _, _, _, _, _, _, _, _, _, _, _, _, rfl⟩, ?_, ?_⟩
  rotate_left
  · rintro δ' ⟨e1, e2, e3, e4, e5, e6, e7, e8, e9, e10, e11, e12, e13, e14, e15, e16, e17, rfl⟩
    exact exs_cons (ex_ret (ev_bl rfl))
  rintro i d δ' hd ⟨e1, e2, e3, e4, e5, e6, e7, e8, e9, e10, e11, e12, e13, e14, e15, e16, e17, rfl⟩
  rw [List.getElem?_map] at hd
  obtain ⟨cell, _, rfl⟩ := Option.map_eq_some_iff.mp hd
  refine eg_name 1 sc_law.nd ?_
  refine exs_cons (ex_well 2 (ok__law_well T) (hr.mono (by decide)) sc_law.nd (ev_var 1 rfl ⟨_, rfl, ?_⟩))
  refine exs_cons (ex_set 3 sc_law.nd (ev_call (ok__law_within T) (hr.mono (by decide)) (ea_well 2 rfl (ea_nil ⟨(), rfl, trivial, ?_⟩))))
  rintro d ⟨ws, hws, rfl⟩
  refine exs_cons (ex_set 4 sc_law.nd (ev_call (ok__law_house T) (hr.mono (by decide)) (ea_cons (ev_var 3 rfl (ea_nil ⟨ws, rfl, hws, ?_⟩)))))
  rintro d rfl
  have w2 := hws.lo
  have w5 := hws.hi
  have k5 := hws.k5
  refine exs_cons (ex_setLc 5 (own := [("_law_k", 6)]) rfl sc_law.nd (blkOk_by (by show blkC N_law (defScope s_law) _ _ = true; decide +kernel)) (takes_name 6 sc_law.nd rfl (by intro _ _ _ _ _; exact .inl rfl) (by intro _ _ _ _ _; exact .inr rfl)) (ei_rg1 T.f_range ?_) (by rfl))
  refine ev_call (ok__law_draw T) (hr.mono (by decide)) (ea_well 2 rfl (ea_cons (ev_int (ea_nil ⟨5, rfl, ⟨by decide, by decide⟩, ?_⟩))))
  rintro d ⟨z, rfl, y0, y1⟩
  obtain ⟨n, rfl⟩ := Int.eq_ofNat_of_zero_le y0
  refine ⟨_, rfl, by omega, by omega, fun _ _ => trivial, fun i acc => ∃ ms : List Nat, acc = nd ms ∧ ms.length = i ∧ ∀ x ∈ ms, x ≤ 4, ⟨[], rfl, rfl, fun _ h => by cases h⟩, fun i d acc hd hi => ?_, ?_⟩
  · obtain ⟨ms, rfl, k1, k2⟩ := hi
    obtain ⟨_, hil⟩ := rg_at hd
    refine ⟨by rw [nsI_len, k1]; exact szl (by omega), fun s H0 C cl fp => ets_nil (t_t fun s H0 C cl fp => ?_)⟩
    refine ev_call (ok__law_draw T) (hr.mono (by decide)) (ea_well 2 rfl (ea_cons (ev_int (ea_nil ⟨5, rfl, ⟨by decide, by decide⟩, ?_⟩))))
    rintro d ⟨z, rfl, x0, x1⟩
    obtain ⟨c, rfl⟩ := Int.eq_ofNat_of_zero_le x0
    refine ⟨ms ++ [c], by rw [nd_app]; rfl, by rw [List.length_append, k1]; rfl, fun x hx => ?_⟩
    rcases List.mem_append.mp hx with hx | hx
    · exact k2 x hx
    · rw [List.mem_singleton.mp hx]; omega
  rintro acc ⟨ms, rfl, m1, m2⟩
  rw [rg_len] at m1
  refine exs_cons (ex_set 7 sc_law.nd (ev_call (ok__law_draw T) (hr.mono (by decide)) (ea_well 2 rfl (ea_cons (ev_bin (ev_callB (id := "len") T.f_len (by decide +kernel) (ea_cons (ev_var 5 rfl (ea_nil (bc_lenL (ev_int (bo_add (ea_nil ⟨_, rfl, ⟨by omega, by rw [nsI_len]; omega⟩, ?_⟩)))))))))))) )
  rintro d ⟨z, rfl, x0, x1⟩
  obtain ⟨place, rfl⟩ := Int.eq_ofNat_of_zero_le x0
  rw [nsI_len] at x1
  refine exs_cons (ex_set 8 sc_law.nd (ev_bin (ev_int (ev_call (ok__law_draw T) (hr.mono (by decide)) (ea_well 2 rfl (ea_cons (ev_int (ea_nil ⟨4, rfl, ⟨by decide, by decide⟩, ?_⟩))))))))
  rintro d ⟨z, rfl, v0, v1⟩
  obtain ⟨m0, rfl⟩ := Int.eq_ofNat_of_zero_le v0
  refine bo_add ?_
  generalize hmany : 2 + m0 = many
  have em : (2 : Int) + ((m0 : Nat) : Int) = ((many : Nat) : Int) := by omega
  rw [em]
  have hm2 : 2 ≤ many := by omega
  have hm5 : many ≤ 5 := by omega
  generalize hX : ms.take place = X
  generalize hZ : ms.drop place = Z
  have hXl : X.length = place := by rw [← hX, List.length_take]; omega
  have hZl : X.length + Z.length ≤ 4 := by rw [← hX, ← hZ, List.length_take, List.length_drop]; omega
  refine exs_cons (ex_set 5 sc_law.nd (ev_callTy (T := "tuple") T.f_tuple (by decide +kernel) (ea_cons (ev_bin (ev_bin (ev_sl (ev_var 5 rfl (eo_none (eo_some (ev_var 7 rfl ⟨_, rfl, bsl_lst ?_⟩))))))))))
  rw [cut_to _ (by omega), Int.toNat_natCast, nd_take, hX]
  refine ev_lst (ea_cons (ev_var 8 rfl (ea_nil (dats1 ⟨by show 1 ≤ sizeLine; decide, bo_addL (by rw [nsI_len]; exact sz (by show X.length + 1 ≤ _; omega)) ?_⟩))))
  refine ev_sl (ev_var 5 rfl (eo_some (ev_var 7 rfl ⟨_, rfl, eo_none (bsl_lst ?_)⟩)))
  rw [cut_from _ (by omega), Int.toNat_natCast, nd_drop, hZ]
  refine bo_addL (by rw [List.length_append, nsI_len, nsI_len]; exact sz (by show X.length + 1 + Z.length ≤ _; omega)) (ea_nil (bc_tuple ?_))
  have er : D.tup (nd X ++ [nc many] ++ nd Z) = rackD (X ++ many :: Z) := by
    show _ = D.tup (nd (X ++ many :: Z))
    rw [nd_app, List.append_assoc]
    rfl
  show Exs _ B _ [.scr ns, .dat (.int cell), .well, .dat (.lst (nd ws)), .dat (kD (CK K) ws), .dat (D.tup (nd X ++ [nc many] ++ nd Z)), e6, .dat (nc place), .dat (nc many), e9, e10, e11, e12, e13, e14, e15, e16, e17] _
  rw [er]
  subst hXl
  generalize hr0 : X ++ many :: Z = r
  have hrl : r.length = X.length + Z.length + 1 := by rw [← hr0]; simp; omega
  have hx5 : ∀ x ∈ r, x ≤ 5 := fun x hx => by
    rw [← hr0] at hx
    rcases List.mem_append.mp hx with hx | hx
    · rw [← hX] at hx; have := m2 x (List.mem_of_mem_take hx); omega
    · rcases List.mem_cons.mp hx with rfl | hx
      · exact hm5
      · rw [← hZ] at hx; have := m2 x (List.mem_of_mem_drop hx); omega
  have hrk : RkOk r := ⟨by omega, fun x hx => Nat.le_trans (hx5 x hx) (by decide)⟩
  have hat : r[X.length]? = some many := by rw [← hr0, List.getElem?_append_right (Nat.le_refl _), Nat.sub_self]; rfl
  have hth : ∀ {p k : Nat} {f : Fo}, r[p]? = some k → f.full → f.wf ws → f.len = k → f.code.length ≤ 500 → ThOk ws r ⟨p, f⟩ := fun {p k f} h1 h2 h3 h4 h5 => ⟨⟨by omega, by show f.code.length ≤ 1000; omega, h2, h3⟩, h3, by rw [h4]; exact h1⟩
  refine exs_cons (ex_set 9 sc_law.nd (ev_call (ok__law_draw T) (hr.mono (by decide)) (ea_well 2 rfl (ea_cons (ev_bin (ev_var 8 rfl (ev_int (bo_sub (ea_nil ⟨_, rfl, ⟨by omega, by omega⟩, ?_⟩)))))))))
  rintro d ⟨z, rfl, l0, l1⟩
  obtain ⟨lo, rfl⟩ := Int.eq_ofNat_of_zero_le l0
  refine exs_cons (ex_set 10 sc_law.nd (ev_bin (ev_bin (ev_var 9 rfl (ev_int (bo_add ?_))))))
  refine ev_call (ok__law_draw T) (hr.mono (by decide)) (ea_well 2 rfl (ea_cons (ev_bin (ev_bin (ev_var 8 rfl (ev_int (bo_sub (ev_var 9 rfl (bo_sub (ea_nil ⟨_, rfl, ⟨by omega, by omega⟩, ?_⟩))))))))))
  rintro d ⟨z, rfl, t0, t1⟩
  obtain ⟨h0, rfl⟩ := Int.eq_ofNat_of_zero_le t0
  refine bo_add ?_
  generalize hhi : lo + 1 + h0 = hi
  have eh : ((lo : Nat) : Int) + 1 + ((h0 : Nat) : Int) = ((hi : Nat) : Int) := by omega
  rw [eh]
  have hlt1 : lo < hi := by omega
  have hlt2 : hi < many := by omega
  have rowok : ∀ {k : Nat}, k ≤ 5 → RW3.ok ⟨ws, k⟩ := fun h => ⟨hws, Nat.le_trans h (by decide)⟩
  refine exs_cons (ex_own 11 sc_law.nd (ea_cons (ev_tup (ea_cons (ev_var 7 rfl ?_)))))
  refine ea_cons (ev_call (ok__law_row T) (hr.mono (by decide)) (ea_well 2 rfl (ea_cons (ev_var 3 rfl (ea_cons (ev_var 8 rfl (ea_nil ⟨⟨ws, many⟩, rfl, rowok hm5, ?_⟩)))))))
  rintro d ⟨f1, rfl, f11, f12, f13, f14⟩
  refine ea_nil (dats2 ⟨by show 2 ≤ sizeLine; decide, ea_cons (ev_tup (ea_cons (ev_var 7 rfl ?_))) ⟩)
  refine ea_cons (ev_call (ok__law_row T) (hr.mono (by decide)) (ea_well 2 rfl (ea_cons (ev_var 3 rfl (ea_cons (ev_var 8 rfl (ea_nil ⟨⟨ws, many⟩, rfl, rowok hm5, ?_⟩)))))))
  rintro d ⟨f2, rfl, f21, f22, f23, f24⟩
  refine ea_nil (dats2 ⟨by show 2 ≤ sizeLine; decide, ea_nil (dats2 ⟨by show 2 ≤ sizeLine; decide, ?_⟩)⟩)
  have th1 : ThOk ws r ⟨X.length, f1⟩ := hth hat f11 f12 f13 f14
  have th2 : ThOk ws r ⟨X.length, f2⟩ := hth hat f21 f22 f23 f24
  refine exs_cons (ex_for PassesOwn.never rfl (ei_rg1 T.f_range (ev_int ⟨_, rfl, by decide, by decide, ?_⟩)))
  refine ⟨fun i δ' => ∃ (its : List Th) (e6 e12 : Ent), δ' = [.scr ns, .dat (.int cell), .well, .dat (.lst (nd ws)), .dat (kD (CK K) ws), .dat (rackD r), e6, .dat (nc X.length), .dat (nc many), .dat (nc lo), .dat (nc hi), .own .l (its.map thD), e12, e13, e14, e15, e16, e17] ∧ its.length = 2 + i ∧ (∀ t ∈ its, ThOk ws r t) ∧ its.take 2 = [⟨X.length, f1⟩, ⟨X.length, f2⟩], ⟨[⟨X.length, f1⟩, ⟨X.length, f2⟩], _, _, rfl, rfl, fun t ht => ?_, rfl⟩, ?_, ?_⟩
  · rcases List.mem_cons.mp ht with rfl | ht
    · exact th1
    · rw [List.mem_singleton.mp ht]; exact th2
  · rintro i d δ' hd ⟨its, e6, e12, rfl, i1, i2, i3⟩
    obtain ⟨rfl, hil⟩ := rg_at (n := 2) hd
    refine eg_name 6 sc_law.nd ?_
    refine exs_cons (ex_set 12 sc_law.nd (ev_call (ok__law_draw T) (hr.mono (by decide)) (ea_well 2 rfl (ea_cons (ev_callB (id := "len") T.f_len (by decide +kernel) (ea_cons (ev_var 5 rfl (ea_nil (bc_lenT (ea_nil ⟨_, rfl, ⟨by rw [nsI_len]; omega, by rw [nsI_len]; omega⟩, ?_⟩))))))))))
    rintro d ⟨z, rfl, a0, a1⟩
    obtain ⟨at_, rfl⟩ := Int.eq_ofNat_of_zero_le a0
    rw [nsI_len] at a1
    have hatl : at_ < r.length := by omega
    have hra : r[at_]? = some r[at_] := List.getElem?_eq_getElem hatl
    have hr5 := hx5 _ (List.getElem_mem hatl)
    refine exs_cons (ex_append 11 rfl (by rw [List.length_map, i1]; exact szl (by omega)) (ev_tup (ea_cons (ev_var 12 rfl ?_))))
    refine ea_cons (ev_call (ok__law_row T) (hr.mono (by decide)) (ea_well 2 rfl (ea_cons (ev_var 3 rfl (ea_cons (ev_ix (ev_var 5 rfl (ev_var 12 rfl (bix_tup (atI_nat (nsI_at hra)) (ea_nil ⟨⟨ws, r[at_]⟩, rfl, rowok hr5, ?_⟩))))))))))
    rintro d ⟨f3, rfl, f31, f32, f33, f34⟩
    refine ea_nil (dats2 ⟨by show 2 ≤ sizeLine; decide, exs_nil ⟨its ++ [⟨at_, f3⟩], .dat (nc i), .dat (nc at_), ?_, by rw [List.length_append, i1]; rfl, fun t ht => ?_, ?_⟩⟩)
    · rw [List.map_append]; rfl
    · rcases List.mem_append.mp ht with ht | ht
      · exact i2 t ht
      · rw [List.mem_singleton.mp ht]
        exact hth hra f31 f32 f33 f34
    · rw [List.take_append_of_le_length (by omega)]; exact i3
  rintro δ' ⟨its, e6', e12', rfl, i1, i2, i3⟩
  rw [show (rgD 0 (2 : Int)).length = 2 from rfl] at i1
  refine exs_freeze 11 rfl rfl ?_
  have hp1 := pair1 (ws := ws) (X := X) (Z := Z) (many := many) (lo := lo) (hi := hi) hws.k hm5 hlt1 hlt2 hZl (by rw [hr0]; exact hx5)
  rw [hr0] at hp1
  generalize X ++ (ws.flatMap (fun a => ws.map (many - 1 + a - 1 + ·)) ++ Z) = rA at hp1
  have l1 : (way1 ws X.length lo hi).length ≤ 100 := by show (down _ _ _).length + 1 ≤ 100; rw [down_length]; omega
  have l2 : (way2 ws r.length X.length lo hi).length ≤ 100 := by unfold way2; rw [List.length_append, List.length_cons, down_length]; show ws.length + 1 + 1 ≤ 100; omega
  refine exs_cons (ex_set 13 sc_law.nd (ev_lst (ea_cons (ev_call (ok__law_first_way T) (hr.mono (by decide)) (ea_cons (ev_var 3 rfl (ea_cons (ev_var 7 rfl (ea_cons (ev_var 9 rfl (ea_cons (ev_var 10 rfl (ea_nil ⟨⟨ws, X.length, lo, hi, 0⟩, rfl, ⟨w5, by show 0 < hi; omega⟩, ?_⟩)))))))))))))
  rintro d rfl
  refine ea_cons (ev_call (ok__law_second_way T) (hr.mono (by decide)) (ea_cons (ev_var 3 rfl (ea_cons (ev_callB (id := "len") T.f_len (by decide +kernel) (ea_cons (ev_var 5 rfl (ea_nil (bc_lenT ?_)))))))))
  rw [nsI_len]
  refine ea_cons (ev_var 7 rfl (ea_cons (ev_var 9 rfl (ea_cons (ev_var 10 rfl (ea_nil ⟨⟨ws, X.length, lo, hi, r.length⟩, rfl, ⟨w5, by show 0 < ws.length; omega, by show X.length < r.length; omega, by show r.length ≤ 10; omega⟩, ?_⟩))))))
  rintro d rfl
  refine ea_nil (dats2 ⟨by show 2 ≤ sizeLine; decide, ?_⟩)
  refine exs_cons (ex_if (et_not (et_ev (by intro _; rfl) (ev_call (ok__law_alike T) (hr.mono (by decide)) (ea_cons (ev_var 4 rfl (ea_cons (ev_var 5 rfl (ea_cons (ev_var 13 rfl (ea_cons (ev_var 11 rfl (ea_nil ⟨⟨ws, r, way1 ws X.length lo hi, way2 ws r.length X.length lo hi, rA, its⟩, rfl, ⟨k5, hrk, fun y hy => Nat.le_trans (hx5 y hy) (by decide), l1, l2, hp1, by show its.length ≤ 100; omega, i2⟩, ?_⟩)))))))))))))
  rintro d rfl
  refine is_nt (exs_nil ?_)
  have tuA : TU.ok ⟨ws, r, way1 ws X.length lo hi, rA⟩ := ⟨k5.1, by show ws.length < 100; omega, hrk, by show (way1 ws X.length lo hi).length ≤ 1000; omega, hp1.ra⟩
  have plA : ∀ st ∈ way1 ws X.length lo hi, plain st := fun st h => (hp1.opsA st h).plain
  refine exs_cons (ex_for PassesOwn.never rfl (ei_list (ev_sl (ev_var 11 rfl (eo_none (eo_some (ev_int ⟨_, rfl, bsl_lst ⟨_, rfl, ?_⟩⟩)))))))
  rw [cut_to _ (by decide), ← List.map_take, show ((2 : Int)).toNat = 2 from rfl, i3]
  refine ⟨fun i δ' => ∃ e14 : Ent, δ' = [.scr ns, .dat (.int cell), .well, .dat (.lst (nd ws)), .dat (kD (CK K) ws), .dat (rackD r), e6', .dat (nc X.length), .dat (nc many), .dat (nc lo), .dat (nc hi), .dat (.lst (its.map thD)), e12', .dat (.lst [stsD (way1 ws X.length lo hi), stsD (way2 ws r.length X.length lo hi)]), e14, e15, e16, e17], ⟨_, rfl⟩, ?_, ?_⟩
  · rintro i d δ' hd ⟨e14, rfl⟩
    have key : ∃ f : Fo, d = thD ⟨X.length, f⟩ ∧ ThOk ws r ⟨X.length, f⟩ := by
      match i, hd with
      | 0, hd => cases hd; exact ⟨f1, rfl, th1⟩
      | 1, hd => cases hd; exact ⟨f2, rfl, th2⟩
    obtain ⟨f, rfl, hf⟩ := key
    obtain ⟨u, hu, _⟩ := MvRun.ex k5.1 hp1.ra plA hf.2 hf.1.2.2.1
    have hul := way1_len (Z := Z) (many := many) hu rfl
    have hul : u.f.code.length + 2 = f.code.length := hul
    refine eg_name 14 sc_law.nd ?_
    refine exs_cons (ex_if (et_cmp (by decide +kernel) (ev_callB (id := "len") T.f_len (by decide +kernel) (ea_cons (ev_ix (ev_ix (ev_call (ok__law_walked T) (hr.mono (by decide)) (ea_cons (ev_var 4 rfl (ea_cons (ev_var 5 rfl (ea_cons (ev_ix (ev_var 13 rfl (ev_int (bix_lst (by rfl) (ea_cons (ev_var 14 rfl (ea_nil ⟨⟨⟨ws, r, way1 ws X.length lo hi, rA⟩, ⟨X.length, f⟩, u⟩, rfl, ⟨tuA, plA, hf, hu⟩, ?_⟩)))))))))))))))))))
    rintro d rfl
    refine ev_int (bix_tup (by rfl) (ev_int (bix_tup (by rfl) (ea_nil (bc_lenT (ev_bin (ev_callB (id := "len") T.f_len (by decide +kernel) (ea_cons (ev_ix (ev_var 14 rfl (ev_int (bix_tup (by rfl) (ea_nil (bc_lenT (ev_int (bo_sub (bo_ne (is_nddt ?_ (exs_nil (exs_nil ⟨_, rfl⟩))))))))))))))))))))
    rw [List.length_map, List.length_map]
    show ((u.f.code.length : Nat) : Int) = ((f.code.length : Nat) : Int) - 2
    omega
  rintro δ' ⟨e14', rfl⟩
  refine exs_cons (ex_setLc 15 (own := [("_law_at", 12), ("_law_trees", 16)]) rfl sc_law.nd (blkOk_by (by show blkC N_law (defScope s_law) _ _ = true; decide +kernel)) (takes_pair 12 16 (by decide) rfl sc_law.nd rfl rfl (by intro _ _ _ _ _; exact .inl rfl) (by intro _ _ _ _ _; exact .inl rfl) (by intro _ _ _ _ _; exact .inr rfl) (by intro _ _ _ _ _; exact .inr rfl)) (ei_enumT T.f_enumerate (ev_var 5 rfl ⟨_, rfl, ?_⟩)) (by rfl))
  refine ⟨fun d hd => ?_, fun i acc => ∃ os : List Nat, acc = nd os ∧ os.length ≤ i ∧ ∀ o ∈ os, ∃ k, r[o]? = some k ∧ 0 < k ∧ o ≠ X.length, ⟨[], rfl, Nat.le_refl _, fun _ h => by cases h⟩, fun i d acc hd hi => ?_, ?_⟩
  · obtain ⟨i, hi⟩ := List.getElem?_of_mem hd
    obtain ⟨y, _, rfl⟩ := enumD_at hi
    rfl
  · obtain ⟨os, rfl, o1, o2⟩ := hi
    obtain ⟨x, hy, rfl⟩ := enumD_at hd
    obtain ⟨y, hy2, rfl, hil⟩ := nd_at hy
    refine ⟨by rw [nsI_len]; exact szl (by omega), fun s H0 C cl fp => ets_one (et_w (ew_and (et_cmp (by decide +kernel) (ev_var 16 rfl (ev_int (bo_gt (is_d (fun z => ?_) fun z => ?_)))))))⟩
    · refine ew_and1 (et_cmp (by decide +kernel) (ev_var 12 rfl (ev_var 7 rfl (bo_ne (is_nd (fun z2 => ?_) fun z2 => ?_)))))
      · intro s H0 C cl fp
        refine ev_var 12 rfl ⟨os ++ [i], by rw [nd_app]; rfl, by rw [List.length_append]; exact Nat.succ_le_succ o1, fun o ho => ?_⟩
        rcases List.mem_append.mp ho with ho | ho
        · exact o2 o ho
        · rw [List.mem_singleton.mp ho]
          exact ⟨y, hy2, by omega, fun e => z2 (by rw [e])⟩
      · exact ⟨os, rfl, by omega, o2⟩
    · exact t_f ⟨os, rfl, by omega, o2⟩
  rintro acc ⟨os, rfl, o1, o2⟩
  refine exs_cons (ex_if (et_cmp (by decide +kernel) (ev_var 15 rfl (ev_lst (ea_nil (dats0 ⟨by decide, ?_⟩))))))
  by_cases hos : os = []
  · subst hos
    exact bo_differ (by rfl) hr (is_f (exs_nil (exs_nil ⟨_, _, _, _, _, _, _, _, _, _, _, _, _, _, _, _, _, rfl⟩)))
  · have hon : 0 < os.length := List.length_pos_iff.mpr hos
    have hol : os.length ≤ r.length := by rw [enumD_length, nsI_len] at o1; exact o1
    refine bo_neNil (ns := nsI os) hr (fun e => hos (List.map_eq_nil_iff.mp e)) (is_t ?_)
    refine exs_cons (ex_set 17 sc_law.nd (ev_ix (ev_var 15 rfl (ev_call (ok__law_draw T) (hr.mono (by decide)) (ea_well 2 rfl (ea_cons (ev_callB (id := "len") T.f_len (by decide +kernel) (ea_cons (ev_var 15 rfl (ea_nil (bc_lenL (ea_nil ⟨_, rfl, ⟨by rw [nsI_len]; omega, by rw [nsI_len]; omega⟩, ?_⟩))))))))))))
    rintro d ⟨z, rfl, a0, a1⟩
    obtain ⟨j, rfl⟩ := Int.eq_ofNat_of_zero_le a0
    rw [nsI_len] at a1
    have hjl : j < os.length := by omega
    have hoj : os[j]? = some os[j] := List.getElem?_eq_getElem hjl
    obtain ⟨k, hk1, hk2, hk3⟩ := o2 os[j] (List.getElem_mem hjl)
    generalize os[j] = o at *
    refine bix_lst (atI_nat (nsI_at hoj)) ?_
    have hk5 := hx5 k (List.mem_of_getElem? hk1)
    refine exs_cons (ex_set 13 sc_law.nd (ev_call (ok__law_two_forms T) (hr.mono (by decide)) (ea_cons (ev_var 3 rfl (ea_cons (ev_var 5 rfl (ea_cons (ev_var 7 rfl (ea_cons (ev_var 9 rfl (ea_cons (ev_var 17 rfl (ea_cons ?_)))))))))))))
    refine ev_call (ok__law_draw T) (hr.mono (by decide)) (ea_well 2 rfl (ea_cons (ev_ix (ev_var 5 rfl (ev_var 17 rfl (bix_tup (atI_nat (nsI_at hk1)) (ea_nil ⟨_, rfl, ⟨by omega, by omega⟩, ?_⟩)))))))
    rintro d ⟨z, rfl, b0, b1⟩
    obtain ⟨sl, rfl⟩ := Int.eq_ofNat_of_zero_le b0
    have hsl : sl < k := by omega
    refine ea_nil ⟨⟨ws, r, X.length, lo, o, sl⟩, rfl, by show 0 < ws.length; omega, ?_⟩
    rintro d rfl
    obtain ⟨rB, hp2⟩ := pair_TF (ws := ws) (r := r) (p := X.length) (q := o) (a := lo) (b := sl) (many := many) (k := k) hws.k (by omega) hx5 hat hk1 (by omega) hsl hk3
    refine exs_cons (ex_if (et_not (et_ev (by intro _; rfl) (ev_call (ok__law_alike T) (hr.mono (by decide)) (ea_cons (ev_var 4 rfl (ea_cons (ev_var 5 rfl (ea_cons (ev_var 13 rfl (ea_cons (ev_var 11 rfl (ea_nil ⟨⟨ws, r, _, _, rB, its⟩, rfl, ⟨k5, hrk, fun y hy => Nat.le_trans (hx5 y hy) (by decide), TF.A_len _, TF.B_len _, hp2, by show its.length ≤ 100; omega, i2⟩, ?_⟩)))))))))))))
    rintro d rfl
    exact is_nt (exs_nil (exs_nil (exs_nil ⟨_, _, _, _, _, _, _, _, _, _, _, _, _, _, _, _, _, rfl⟩)))
end
end BA

set_option maxHeartbeats 0
open PySem PySem.W PySem.Calls PyProof.Rows
theorem PySem.Challenge.cw_boughswap_k39_whole_opens_in_either_orde_holds : PySem.Challenge.rw_boughswap_k39_whole_opens_in_either_orde.Holds := by
  w_on; o_law
  refine HandSHeadRun.head_any (r := OpenLaw.row PySem.Challenge.rw_boughswap_k39_whole_opens_in_either_orde) (q := view (OpenLaw.row PySem.Challenge.rw_boughswap_k39_whole_opens_in_either_orde).prog [72]) (H := BA.hk) (ob := BA.ob) (M := 6000) (loose := BA.others) (d := HandSHeadRun.topDef (OpenLaw.row PySem.Challenge.rw_boughswap_k39_whole_opens_in_either_orde).prog 72) (kwd := []) BA.ob_eq
    (by kernel_rfl) (fun s => by kernel_rfl) BA.run (by kernel_rfl) (by kernel_rfl) (by kernel_rfl) (by rfl) (by first | assumption | decide +kernel) (by decide +kernel) ⟨rfl, rfl, rfl, rfl, rfl, by decide +kernel⟩ ?hw ?hc
  case hw => w_witness2
  case hc =>
    refine L2.walk_ofE (l := PySem.Challenge.rw_boughswap_k39_whole_opens_in_either_orde) (n := 63) (k := 17) (x := "_law_script") (CX := L2.CX0) rfl (by decide) (by kernel_rfl) ⟨rfl, by decide, by decide⟩ ?F (fun _ _ _ _ z => z)
    intro w mg fa h Y G hmg0
    obtain ⟨K, KX, c, x⟩ := Y
    have hmg : mg ("law" : PySem.Str) = some (.ref fa) := by
      have e : (HandSHeadRun.topDef (OpenLaw.row PySem.Challenge.rw_boughswap_k39_whole_opens_in_either_orde).prog 72).name = ("law" : PySem.Str) := by kernel_rfl
      rw [← e]
      exact hmg0
    have T : BA.Txt K mg := BA.Txt.of KX G c x
    have e := hmg.symm.trans (T.glo (T.c.fact 54 (f := .glo "law") rfl))
    cases e
    obtain ⟨fd, hb, hF⟩ := BA.ok_law (P := (PySem.Challenge.rw_boughswap_k39_whole_opens_in_either_orde).prog) (w := w) T
    refine ⟨K, fd, BA.spLaw K, KX, hb, fun H a ns hl _ hS => ⟨a, ns, rfl, hS, fun _ => rfl⟩, fun base _ _ => hF base⟩
